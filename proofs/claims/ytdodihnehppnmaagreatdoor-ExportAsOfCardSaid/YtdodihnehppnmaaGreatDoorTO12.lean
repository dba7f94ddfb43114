/-
  Walks and laws that the claim's theorem uses: texts EnI, joined; comments out. Conditions: as each theorem says.
-/
import Derived.Test.YtdodihnehppnmaaGreatDoorTO11
set_option linter.all false
namespace Go.Proofs.YtdodihnehppnmaaGreatDoor
open Go.RowKit
theorem Xaw:ElemOk Tryz.prog 33 26 tEnt 112:=ElemOk.of Tryz.underlying33 Xbi rfl (by decide) rfl
theorem Xig {p q:Bytes}:(ltP (els q) (els p)=true∧cmpP p q=1)∨(ltP (els q) (els p)=false∧(cmpP p q=0∨cmpP p q= -1)):=by
 unfold cmpP
 cases h:ltP (els q) (els p)
 ·right
  cases ltP (els p) (els q)<;>simp
 ·left
  rw [Xfe h];simp
theorem Xbh {I:IH} (W:World) (n:Nat) (hn:n=W.heap.size):OwnS tEnt 26 I (W.alloc (.cells #[] 26)) n (.slice (some ⟨n,0,none⟩) 0 0) []:=by
 subst hn
 exact ⟨[],World.ownsRow_made W #[] 0 (Qn _) (Nat.zero_le _) (by simp),LiesL.nil _ _⟩
set_option maxRecDepth 100000 in
set_option maxHeartbeats 4000000 in
theorem Xm7 (I:IH) (v:Value) (t:List Ent) (hv:RdS tEnt I v t) (hs:SmlT t) (hn:t.length≤100000) (e:Ent) (va vx:Value) (hva:RdS tAt I va e.attrs) (hvx:RdS tXt I vx e.exts) (hwf:e.Wf) (hpl:e.path.length≤4294967280) (hxl:e.exts.length≤1000000) (w:World) (hw:Ok I w):
 Calls Tryz.prog 143 #[v,entV e va vx] w (RetL tEnt I w (applyT t e).1 (applyT t e).2):=by
 have hlen:=hv.len_le
 have Hck:=Qh (fun w hw=>Xby I e va vx hva hvx hwf w hw)
 rw [Xcf hxl] at Hck
 obtain ⟨ao,cap,rfl,hcap,hcm,_⟩:=id hv
 have Hv:=Qh hv
 obtain ⟨aa,ca,rfl,_,_,_⟩:=id hva
 obtain ⟨ax,cx,rfl,_,_,_⟩:=id hvx
 have Hrd:=Qh (show tEnt.rd I (entCs e (.slice aa e.attrs.length ca) (.slice ax e.exts.length cx)) e from ⟨_,_,rfl,hva,hvx⟩)
 have Hs:=Qh hs
 clear hv hva hvx hs
 by_cases h0:entErr e=0
 case neg=>
  have Ha:=Qh (Xjm (t:=t) h0)
  obtain ⟨q,hq⟩:∃q,entErr e=q:=⟨_,rfl⟩
  have hn0:(q != 0)=true:=by rw [←hq];simpa using h0
  rw [hq] at Hck Ha
  clear hq h0
  go_enter Tryz.func143,Tryz.ntmps143
  go_wp2_with fail
  refine (Hck.out _ (hw.alloc _)).mono ?_
  rintro e1 w1 ⟨rfl,hb1⟩
  have HBx:=Qh (entB rfl hb1)
  have hok1:Ok I w1:=(hw.alloc _).below (Qn _) hb1
  have hsz1:w.heap.size<w1.heap.size:=by have:=hb1.size;simp at this;omega
  have hb1':Below w.heap.size w w1:=((Qb _ _).alloc (Qn _) _).trans (hb1.mono (by simp))
  clear hb1
  go_wp2
  go_ret2
  rw [Ha.out]
  exact ⟨_,I,rfl,hb1',Ext.refl _ _,hok1,RdS.nil _ _⟩
 have hke:=Xbj h0
 have H0:=Qh h0
 rw [h0] at Hck
 have Hgt:=Qh (fun w hw=>Xcl I _ t Hv.out e.path w hw)
 obtain ⟨old,there,hge⟩:∃o b,getE t e.path=(o,b):=⟨_,_,rfl⟩
 have hgt:(there=true∧getT t e.path=some old)∨(there=false∧getT t e.path=none):=by
  unfold getE at hge
  cases h:getT t e.path with
  |none=>rw [h] at hge;injection hge with h1 h2;exact .inr ⟨h2.symm,rfl⟩
  |some y=>rw [h] at hge;injection hge with h1 h2;exact .inl ⟨h2.symm,by rw [h1]⟩
 rw [hge] at Hgt
 clear h0 hge
 by_cases hk3:3<e.kind
 ·have Hk3:=Qh hk3
  have hkk:e.kind=4∨e.kind=5∨e.kind=6:=by omega
  have hnot:(there=true∧getT t e.path≠none)∨(there=false∧e.path= [])∨(there=false∧getT t e.path=none∧e.path≠ []):=by
   rcases hgt with ⟨h1,h2⟩|⟨h1,h2⟩
   ·exact .inl ⟨h1,by rw [h2];simp⟩
   ·by_cases hp:e.path= []
    ·exact .inr (.inl ⟨h1,hp⟩)
    ·exact .inr (.inr ⟨h1,h2,hp⟩)
  clear hgt
  have hkb:(((e.kind:Int)==4)=true)∨(((e.kind:Int)==4)=false∧((e.kind:Int)==5)=true)∨(((e.kind:Int)==4)=false∧((e.kind:Int)==5)=false∧((e.kind:Int)==6)=true):=by
   rcases hkk with h|h|h<;>rw [h]<;>decide
  clear hkk
  rcases hnot with ⟨rfl,hg⟩|⟨rfl,hp⟩|⟨rfl,hg,hp⟩
  ·have Ha:=Qh (Xen (t:=t) H0.out Hk3.out fun h=>hg h.1)
   clear hg
   rcases hkb with k4|⟨k4,k5⟩|⟨k4,k5,k6⟩
   all_goals
    go_enter Tryz.func143,Tryz.ntmps143
    go_wp2_with fail
    refine (Hck.out _ (hw.alloc _)).mono ?_
    rintro e1 w1 ⟨rfl,hb1⟩
    have HBx:=Qh (entB rfl hb1)
    have hok1:Ok I w1:=(hw.alloc _).below (Qn _) hb1
    have hsz1:w.heap.size<w1.heap.size:=by have:=hb1.size;simp at this;omega
    have hb1':Below w.heap.size w w1:=((Qb _ _).alloc (Qn _) _).trans (hb1.mono (by simp))
    clear hb1
    obtain ⟨c0,c1,c2,c3,c4,c5,c6⟩:=HBx.out
    go_wp2_with fail
    refine (Hgt.out _ hok1).mono ?_
    rintro e2 w2 ⟨va2,vx2,rfl,h1,h2,hb2⟩
    obtain ⟨oa,oc,rfl,_,_,_⟩:=id h1
    obtain ⟨ox,od,rfl,_,_,_⟩:=id h2
    have hok2:Ok I w2:=hok1.below (Qn _) hb2
    have hsz2:w.heap.size<w2.heap.size:=by have:=hb2.size;omega
    have hb2':=hb1'.trans (hb2.mono hb1'.size)
    have HBy:=Qh (HBx.out.thru hb2)
    clear hb2 hb1' hsz1 hok1 c0 c1 c2 c3 c4 c5 c6 HBx h1 h2
    obtain ⟨c0,c1,c2,c3,c4,c5,c6⟩:=EntB.past (EntB.past HBy.out (.cells #[.int .i64 old.kind,S old.path,.slice oa old.attrs.length oc,S old.target,.int .i64 old.size,S old.digest,.slice ox old.exts.length od] 26)) (.cells #[] 26)
    have Hst0:=Qh (show OwnS tEnt 26 I ((w2.alloc (.cells #[.int .i64 old.kind,S old.path,.slice oa old.attrs.length oc,S old.target,.int .i64 old.size,S old.digest,.slice ox old.exts.length od] 26)).alloc (.cells #[] 26)) (w2.heap.size+1) (.slice (some ⟨w2.heap.size+1,0,none⟩) 0 0) [] from Xbh _ _ (by simp))
    have HB3:=Qh (⟨c0,c1,c2,c3,c4,c5,c6⟩:EntB _ w.heap.size e _ _)
    have Hb3:=Qh (Below.alloc (B:=w.heap.size) (hb2'.alloc hb2'.size (.cells #[.int .i64 old.kind,S old.path,.slice oa old.attrs.length oc,S old.target,.int .i64 old.size,S old.digest,.slice ox old.exts.length od] 26)) (by have:=hb2'.size;simp;omega) (.cells #[] 26))
    have Hold:=Qh (EntB.past (entB (n:=w2.heap.size) (e:=old) (va:= .slice oa old.attrs.length oc) (vx:= .slice ox old.exts.length od) (t:=26) rfl (Qb _ _)) (.cells #[] 26))
    have Hfr:=Qh (fun b (hb:w2.heap.size+1≤b)=>hok2.fresh (b:=b) (by omega))
    have Hcut:=Qh Hst0.out
    go_wp2_with fail
    clear c0 c1 c2 c3 c4 c5 c6
    go_loopw [9,46] (fun s9 s46 wr=> ∃k:Nat,k≤t.length∧s46= .int .i64 k∧OwnS tEnt 26 I wr (w2.heap.size+1) s9 ((t.take k).filter fun x=> !(remB e x))∧EntB wr w.heap.size e (.slice aa e.attrs.length ca) (.slice ax e.exts.length cx)∧Below w.heap.size w wr∧w2.heap.size+1≤wr.heap.size) (fun _ i _=>t.length-(intOf i).toNat)
    case atStart=>exact ⟨0,Nat.zero_le _,rfl,Hst0.out,HB3.out,Hb3.out,by simp⟩
    case round=>
     clear Hst0 HB3 Hb3 Hold Hcut
     obtain ⟨k,hk,rfl,hown,hBe,hb,hsz⟩:=hrel
     have Hown:=Qh hown
     have HBe:=Qh hBe
     clear hown hBe
     have hwr:Ok I wr:=hw.below (Qn _) hb
     have hfl:((t.take k).filter fun x=> !(remB e x)).length≤k:=Nat.le_trans (List.length_filter_le _ _) (by simp;omega)
     by_cases hlt:k<t.length
     ·obtain ⟨x,vxa,vxx,b,off,cap',hlx,hvv,⟨x0,x1,x2,x3,x4,x5,x6⟩,h1,h2⟩:=Xbu Hv.out hwr k hlt
      cases hvv
      obtain ⟨xa,xc,rfl,_,_,_⟩:=id h1
      obtain ⟨xx,xd,rfl,_,_,_⟩:=id h2
      have Hxr:=Qh (show tEnt.rd I (entCs x (.slice xa x.attrs.length xc) (.slice xx x.exts.length xd)) x from ⟨_,_,rfl,h1,h2⟩)
      have Hst:=Qh (show ((t.take (k+1)).filter fun x=> !(remB e x))=((t.take k).filter fun x=> !(remB e x))++(if remB e x then [] else [x]) by
       rw [List.take_succ_eq_append_getElem hlt,hlx,List.filter_append];cases h:remB e x<;>simp [h])
      have Hun:=Qh (fun w hw=>Xdi I x.path e.path w hw)
      obtain ⟨c0,c1,c2,c3,c4,c5,c6⟩:=HBe.out.past (.cells #[.int .i64 x.kind,S x.path,.slice xa x.attrs.length xc,S x.target,.int .i64 x.size,S x.digest,.slice xx x.exts.length xd] 26)
      clear hlx h1 h2
      by_cases hk4:e.kind=4
      ·have k4:((e.kind:Int) != 4)=false:=by simpa using hk4
       have Hre:=Qh (show remB e x=under x.path e.path by rw [remB,Qt hk4];rfl)
       clear hk4
       go_wp2_with fail
       refine (Hun.out _ (hwr.alloc _)).mono ?_
       rintro e4 w4 ⟨rfl,hb4⟩
       have hbx:=entB rfl hb4
       obtain ⟨y0,y1,y2,y3,y4,y5,y6⟩:=hbx
       have hb4':=(hb.alloc hb.size _).trans (hb4.mono (by have:=hb.size;simp;omega))
       have Hown4:=Qh ((Hown.out.alloc (.cells #[.int .i64 x.kind,S x.path,.slice xa x.attrs.length xc,S x.target,.int .i64 x.size,S x.digest,.slice xx x.exts.length xd] 26)).below hb4)
       have HB4:=Qh (EntB.thru (⟨c0,c1,c2,c3,c4,c5,c6⟩:EntB (wr.alloc (.cells #[.int .i64 x.kind,S x.path,.slice xa x.attrs.length xc,S x.target,.int .i64 x.size,S x.digest,.slice xx x.exts.length xd] 26)) w.heap.size e _ _) hb4)
       have hsz4:w2.heap.size+1≤w4.heap.size:=by have:=hb4.size;simp at this;omega
       clear hb4 c0 c1 c2 c3 c4 c5 c6 x0 x1 x2 x3 x4 x5 x6
       cases hu:under x.path e.path
       ·have Hn:=Qh (show ((t.take (k+1)).filter fun x=> !(remB e x))=((t.take k).filter fun x=> !(remB e x))++ [x] by rw [Hst.out,Hre.out,hu];rfl)
        clear hu
        go_wp2_with (at_builtin;refine Xad (w0:=w4) Xaw rfl _ _ rfl _ _ _ rfl Hown4.out x (entCs x (.slice xa x.attrs.length xc) (.slice xx x.exts.length xd)) _ rfl Hxr.out (by omega) (by omega) hsz4 ?_)
        intro v9 w9 hown9 hg9
        have hb9:=Below.own hb4' hg9 Hown4.out (by omega) hsz4
        have hB9:=HB4.out.own hg9 (Hown4.out.ne_lt (by omega))
        have hs9:=hg9.size
        go_wp2
        go_roundw
        case rel=>exact ⟨k+1,by omega,by go_num,(by rw [Hn.out];exact hown9),hB9,hb9,by omega⟩
        case measure=>simp [intOf];omega
       ·have Hn:=Qh (show ((t.take (k+1)).filter fun x=> !(remB e x))=((t.take k).filter fun x=> !(remB e x)) by rw [Hst.out,Hre.out,hu];simp)
        clear hu
        go_wp2
        go_roundw
        case rel=>exact ⟨k+1,by omega,by go_num,(by rw [Hn.out];exact Hown4.out),HB4.out,hb4',hsz4⟩
        case measure=>simp [intOf];omega
      ·have k4:((e.kind:Int) != 4)=true:=by simpa using hk4
       have Hn:=Qh (show ((t.take (k+1)).filter fun x=> !(remB e x))=((t.take k).filter fun x=> !(remB e x))++ [x] by
        have:remB e x=false:=by rw [remB,Qf hk4];rfl
        rw [Hst.out,this];rfl)
       have Hown4:=Qh (Hown.out.alloc (.cells #[.int .i64 x.kind,S x.path,.slice xa x.attrs.length xc,S x.target,.int .i64 x.size,S x.digest,.slice xx x.exts.length xd] 26))
       have hsz4:w2.heap.size+1≤(wr.alloc (.cells #[.int .i64 x.kind,S x.path,.slice xa x.attrs.length xc,S x.target,.int .i64 x.size,S x.digest,.slice xx x.exts.length xd] 26)).heap.size:=by simp;omega
       have HB4:=Qh (⟨c0,c1,c2,c3,c4,c5,c6⟩:EntB (wr.alloc (.cells #[.int .i64 x.kind,S x.path,.slice xa x.attrs.length xc,S x.target,.int .i64 x.size,S x.digest,.slice xx x.exts.length xd] 26)) w.heap.size e _ _)
       have hb4':=hb.alloc hb.size (.cells #[.int .i64 x.kind,S x.path,.slice xa x.attrs.length xc,S x.target,.int .i64 x.size,S x.digest,.slice xx x.exts.length xd] 26)
       clear hk4
       go_wp2_with (at_builtin;refine Xad (w0:=wr.alloc (.cells #[.int .i64 x.kind,S x.path,.slice xa x.attrs.length xc,S x.target,.int .i64 x.size,S x.digest,.slice xx x.exts.length xd] 26)) Xaw rfl _ _ rfl _ _ _ rfl Hown4.out x (entCs x (.slice xa x.attrs.length xc) (.slice xx x.exts.length xd)) _ (by simp [Act.eval]) Hxr.out (by omega) (by omega) hsz4 ?_)
       intro v9 w9 hown9 hg9
       have hb9:=Below.own hb4' hg9 Hown4.out (by omega) hsz4
       have hB9:=HB4.out.own hg9 (Hown4.out.ne_lt (by omega))
       have hs9:=hg9.size
       go_wp2
       go_roundw
       case rel=>exact ⟨k+1,by omega,by go_num,(by rw [Hn.out];exact hown9),hB9,hb9,by omega⟩
       case measure=>simp [intOf];omega
     ·have hall:t.take k=t:=List.take_of_length_le (by omega)
      rw [hall] at Hown
      clear hall
      go_wp2
      go_ret2
      rw [Ha.out]
      obtain ⟨I',hI1,hI2,hI3,_⟩:=Hown.out.freeze hwr Hfr.out
      exact ⟨_,I',rfl,hb,hI1.mono (by omega),hI2,hI3⟩
  ·have Ha:=Qh (Xen (t:=t) H0.out Hk3.out fun h=>h.2 hp)
   obtain ⟨p1,p2,p3,p4⟩:=Xdv hp
   clear hp
   rcases hkb with k4|⟨k4,k5⟩|⟨k4,k5,k6⟩
   all_goals
    go_enter Tryz.func143,Tryz.ntmps143
    go_wp2_with fail
    refine (Hck.out _ (hw.alloc _)).mono ?_
    rintro e1 w1 ⟨rfl,hb1⟩
    have HBx:=Qh (entB rfl hb1)
    have hok1:Ok I w1:=(hw.alloc _).below (Qn _) hb1
    have hsz1:w.heap.size<w1.heap.size:=by have:=hb1.size;simp at this;omega
    have hb1':Below w.heap.size w w1:=((Qb _ _).alloc (Qn _) _).trans (hb1.mono (by simp))
    clear hb1
    obtain ⟨c0,c1,c2,c3,c4,c5,c6⟩:=HBx.out
    go_wp2_with fail
    refine (Hgt.out _ hok1).mono ?_
    rintro e2 w2 ⟨va2,vx2,rfl,h1,h2,hb2⟩
    obtain ⟨oa,oc,rfl,_,_,_⟩:=id h1
    obtain ⟨ox,od,rfl,_,_,_⟩:=id h2
    have hok2:Ok I w2:=hok1.below (Qn _) hb2
    have hsz2:w.heap.size<w2.heap.size:=by have:=hb2.size;omega
    have hb2':=hb1'.trans (hb2.mono hb1'.size)
    have HBy:=Qh (HBx.out.thru hb2)
    clear hb2 hb1' hsz1 hok1 c0 c1 c2 c3 c4 c5 c6 HBx h1 h2
    obtain ⟨c0,c1,c2,c3,c4,c5,c6⟩:=EntB.past (EntB.past HBy.out (.cells #[.int .i64 old.kind,S old.path,.slice oa old.attrs.length oc,S old.target,.int .i64 old.size,S old.digest,.slice ox old.exts.length od] 26)) (.cells #[] 26)
    have Hst0:=Qh (show OwnS tEnt 26 I ((w2.alloc (.cells #[.int .i64 old.kind,S old.path,.slice oa old.attrs.length oc,S old.target,.int .i64 old.size,S old.digest,.slice ox old.exts.length od] 26)).alloc (.cells #[] 26)) (w2.heap.size+1) (.slice (some ⟨w2.heap.size+1,0,none⟩) 0 0) [] from Xbh _ _ (by simp))
    have HB3:=Qh (⟨c0,c1,c2,c3,c4,c5,c6⟩:EntB _ w.heap.size e _ _)
    have Hb3:=Qh (Below.alloc (B:=w.heap.size) (hb2'.alloc hb2'.size (.cells #[.int .i64 old.kind,S old.path,.slice oa old.attrs.length oc,S old.target,.int .i64 old.size,S old.digest,.slice ox old.exts.length od] 26)) (by have:=hb2'.size;simp;omega) (.cells #[] 26))
    have Hold:=Qh (EntB.past (entB (n:=w2.heap.size) (e:=old) (va:= .slice oa old.attrs.length oc) (vx:= .slice ox old.exts.length od) (t:=26) rfl (Qb _ _)) (.cells #[] 26))
    have Hfr:=Qh (fun b (hb:w2.heap.size+1≤b)=>hok2.fresh (b:=b) (by omega))
    have Hcut:=Qh Hst0.out
    go_wp2_with fail
    clear c0 c1 c2 c3 c4 c5 c6
    go_loopw [9,46] (fun s9 s46 wr=> ∃k:Nat,k≤t.length∧s46= .int .i64 k∧OwnS tEnt 26 I wr (w2.heap.size+1) s9 ((t.take k).filter fun x=> !(remB e x))∧EntB wr w.heap.size e (.slice aa e.attrs.length ca) (.slice ax e.exts.length cx)∧Below w.heap.size w wr∧w2.heap.size+1≤wr.heap.size) (fun _ i _=>t.length-(intOf i).toNat)
    case atStart=>exact ⟨0,Nat.zero_le _,rfl,Hst0.out,HB3.out,Hb3.out,by simp⟩
    case round=>
     clear Hst0 HB3 Hb3 Hold Hcut
     obtain ⟨k,hk,rfl,hown,hBe,hb,hsz⟩:=hrel
     have Hown:=Qh hown
     have HBe:=Qh hBe
     clear hown hBe
     have hwr:Ok I wr:=hw.below (Qn _) hb
     have hfl:((t.take k).filter fun x=> !(remB e x)).length≤k:=Nat.le_trans (List.length_filter_le _ _) (by simp;omega)
     by_cases hlt:k<t.length
     ·obtain ⟨x,vxa,vxx,b,off,cap',hlx,hvv,⟨x0,x1,x2,x3,x4,x5,x6⟩,h1,h2⟩:=Xbu Hv.out hwr k hlt
      cases hvv
      obtain ⟨xa,xc,rfl,_,_,_⟩:=id h1
      obtain ⟨xx,xd,rfl,_,_,_⟩:=id h2
      have Hxr:=Qh (show tEnt.rd I (entCs x (.slice xa x.attrs.length xc) (.slice xx x.exts.length xd)) x from ⟨_,_,rfl,h1,h2⟩)
      have Hst:=Qh (show ((t.take (k+1)).filter fun x=> !(remB e x))=((t.take k).filter fun x=> !(remB e x))++(if remB e x then [] else [x]) by
       rw [List.take_succ_eq_append_getElem hlt,hlx,List.filter_append];cases h:remB e x<;>simp [h])
      have Hun:=Qh (fun w hw=>Xdi I x.path e.path w hw)
      obtain ⟨c0,c1,c2,c3,c4,c5,c6⟩:=HBe.out.past (.cells #[.int .i64 x.kind,S x.path,.slice xa x.attrs.length xc,S x.target,.int .i64 x.size,S x.digest,.slice xx x.exts.length xd] 26)
      clear hlx h1 h2
      by_cases hk4:e.kind=4
      ·have k4:((e.kind:Int) != 4)=false:=by simpa using hk4
       have Hre:=Qh (show remB e x=under x.path e.path by rw [remB,Qt hk4];rfl)
       clear hk4
       go_wp2_with fail
       refine (Hun.out _ (hwr.alloc _)).mono ?_
       rintro e4 w4 ⟨rfl,hb4⟩
       have hbx:=entB rfl hb4
       obtain ⟨y0,y1,y2,y3,y4,y5,y6⟩:=hbx
       have hb4':=(hb.alloc hb.size _).trans (hb4.mono (by have:=hb.size;simp;omega))
       have Hown4:=Qh ((Hown.out.alloc (.cells #[.int .i64 x.kind,S x.path,.slice xa x.attrs.length xc,S x.target,.int .i64 x.size,S x.digest,.slice xx x.exts.length xd] 26)).below hb4)
       have HB4:=Qh (EntB.thru (⟨c0,c1,c2,c3,c4,c5,c6⟩:EntB (wr.alloc (.cells #[.int .i64 x.kind,S x.path,.slice xa x.attrs.length xc,S x.target,.int .i64 x.size,S x.digest,.slice xx x.exts.length xd] 26)) w.heap.size e _ _) hb4)
       have hsz4:w2.heap.size+1≤w4.heap.size:=by have:=hb4.size;simp at this;omega
       clear hb4 c0 c1 c2 c3 c4 c5 c6 x0 x1 x2 x3 x4 x5 x6
       cases hu:under x.path e.path
       ·have Hn:=Qh (show ((t.take (k+1)).filter fun x=> !(remB e x))=((t.take k).filter fun x=> !(remB e x))++ [x] by rw [Hst.out,Hre.out,hu];rfl)
        clear hu
        go_wp2_with (at_builtin;refine Xad (w0:=w4) Xaw rfl _ _ rfl _ _ _ rfl Hown4.out x (entCs x (.slice xa x.attrs.length xc) (.slice xx x.exts.length xd)) _ rfl Hxr.out (by omega) (by omega) hsz4 ?_)
        intro v9 w9 hown9 hg9
        have hb9:=Below.own hb4' hg9 Hown4.out (by omega) hsz4
        have hB9:=HB4.out.own hg9 (Hown4.out.ne_lt (by omega))
        have hs9:=hg9.size
        go_wp2
        go_roundw
        case rel=>exact ⟨k+1,by omega,by go_num,(by rw [Hn.out];exact hown9),hB9,hb9,by omega⟩
        case measure=>simp [intOf];omega
       ·have Hn:=Qh (show ((t.take (k+1)).filter fun x=> !(remB e x))=((t.take k).filter fun x=> !(remB e x)) by rw [Hst.out,Hre.out,hu];simp)
        clear hu
        go_wp2
        go_roundw
        case rel=>exact ⟨k+1,by omega,by go_num,(by rw [Hn.out];exact Hown4.out),HB4.out,hb4',hsz4⟩
        case measure=>simp [intOf];omega
      ·have k4:((e.kind:Int) != 4)=true:=by simpa using hk4
       have Hn:=Qh (show ((t.take (k+1)).filter fun x=> !(remB e x))=((t.take k).filter fun x=> !(remB e x))++ [x] by
        have:remB e x=false:=by rw [remB,Qf hk4];rfl
        rw [Hst.out,this];rfl)
       have Hown4:=Qh (Hown.out.alloc (.cells #[.int .i64 x.kind,S x.path,.slice xa x.attrs.length xc,S x.target,.int .i64 x.size,S x.digest,.slice xx x.exts.length xd] 26))
       have hsz4:w2.heap.size+1≤(wr.alloc (.cells #[.int .i64 x.kind,S x.path,.slice xa x.attrs.length xc,S x.target,.int .i64 x.size,S x.digest,.slice xx x.exts.length xd] 26)).heap.size:=by simp;omega
       have HB4:=Qh (⟨c0,c1,c2,c3,c4,c5,c6⟩:EntB (wr.alloc (.cells #[.int .i64 x.kind,S x.path,.slice xa x.attrs.length xc,S x.target,.int .i64 x.size,S x.digest,.slice xx x.exts.length xd] 26)) w.heap.size e _ _)
       have hb4':=hb.alloc hb.size (.cells #[.int .i64 x.kind,S x.path,.slice xa x.attrs.length xc,S x.target,.int .i64 x.size,S x.digest,.slice xx x.exts.length xd] 26)
       clear hk4
       go_wp2_with (at_builtin;refine Xad (w0:=wr.alloc (.cells #[.int .i64 x.kind,S x.path,.slice xa x.attrs.length xc,S x.target,.int .i64 x.size,S x.digest,.slice xx x.exts.length xd] 26)) Xaw rfl _ _ rfl _ _ _ rfl Hown4.out x (entCs x (.slice xa x.attrs.length xc) (.slice xx x.exts.length xd)) _ (by simp [Act.eval]) Hxr.out (by omega) (by omega) hsz4 ?_)
       intro v9 w9 hown9 hg9
       have hb9:=Below.own hb4' hg9 Hown4.out (by omega) hsz4
       have hB9:=HB4.out.own hg9 (Hown4.out.ne_lt (by omega))
       have hs9:=hg9.size
       go_wp2
       go_roundw
       case rel=>exact ⟨k+1,by omega,by go_num,(by rw [Hn.out];exact hown9),hB9,hb9,by omega⟩
       case measure=>simp [intOf];omega
     ·have hall:t.take k=t:=List.take_of_length_le (by omega)
      rw [hall] at Hown
      clear hall
      go_wp2
      go_ret2
      rw [Ha.out]
      obtain ⟨I',hI1,hI2,hI3,_⟩:=Hown.out.freeze hwr Hfr.out
      exact ⟨_,I',rfl,hb,hI1.mono (by omega),hI2,hI3⟩
  ·have Ha:=Qh (Xin (t:=t) H0.out Hk3.out ⟨hg,hp⟩)
   obtain ⟨p1,p2,p3,p4⟩:=Xcw hp
   clear hp hg
   rcases hkb with k4|⟨k4,k5⟩|⟨k4,k5,k6⟩
   all_goals
    go_enter Tryz.func143,Tryz.ntmps143
    go_wp2_with fail
    refine (Hck.out _ (hw.alloc _)).mono ?_
    rintro e1 w1 ⟨rfl,hb1⟩
    have HBx:=Qh (entB rfl hb1)
    have hok1:Ok I w1:=(hw.alloc _).below (Qn _) hb1
    have hsz1:w.heap.size<w1.heap.size:=by have:=hb1.size;simp at this;omega
    have hb1':Below w.heap.size w w1:=((Qb _ _).alloc (Qn _) _).trans (hb1.mono (by simp))
    clear hb1
    obtain ⟨c0,c1,c2,c3,c4,c5,c6⟩:=HBx.out
    go_wp2_with fail
    refine (Hgt.out _ hok1).mono ?_
    rintro e2 w2 ⟨va2,vx2,rfl,h1,h2,hb2⟩
    obtain ⟨oa,oc,rfl,_,_,_⟩:=id h1
    obtain ⟨ox,od,rfl,_,_,_⟩:=id h2
    have hok2:Ok I w2:=hok1.below (Qn _) hb2
    have hsz2:w.heap.size<w2.heap.size:=by have:=hb2.size;omega
    have hb2':=hb1'.trans (hb2.mono hb1'.size)
    have HBy:=Qh (HBx.out.thru hb2)
    clear hb2 hb1' hsz1 hok1 c0 c1 c2 c3 c4 c5 c6 HBx h1 h2
    obtain ⟨c0,c1,c2,c3,c4,c5,c6⟩:=EntB.past (EntB.past HBy.out (.cells #[.int .i64 old.kind,S old.path,.slice oa old.attrs.length oc,S old.target,.int .i64 old.size,S old.digest,.slice ox old.exts.length od] 26)) (.cells #[] 26)
    have Hst0:=Qh (show OwnS tEnt 26 I ((w2.alloc (.cells #[.int .i64 old.kind,S old.path,.slice oa old.attrs.length oc,S old.target,.int .i64 old.size,S old.digest,.slice ox old.exts.length od] 26)).alloc (.cells #[] 26)) (w2.heap.size+1) (.slice (some ⟨w2.heap.size+1,0,none⟩) 0 0) [] from Xbh _ _ (by simp))
    have HB3:=Qh (⟨c0,c1,c2,c3,c4,c5,c6⟩:EntB _ w.heap.size e _ _)
    have Hb3:=Qh (Below.alloc (B:=w.heap.size) (hb2'.alloc hb2'.size (.cells #[.int .i64 old.kind,S old.path,.slice oa old.attrs.length oc,S old.target,.int .i64 old.size,S old.digest,.slice ox old.exts.length od] 26)) (by have:=hb2'.size;simp;omega) (.cells #[] 26))
    have Hold:=Qh (EntB.past (entB (n:=w2.heap.size) (e:=old) (va:= .slice oa old.attrs.length oc) (vx:= .slice ox old.exts.length od) (t:=26) rfl (Qb _ _)) (.cells #[] 26))
    have Hfr:=Qh (fun b (hb:w2.heap.size+1≤b)=>hok2.fresh (b:=b) (by omega))
    go_wp2
    go_ret2
    rw [Ha.out]
    exact ⟨_,I,rfl,Hb3.out,Ext.refl _ _,(hok2.alloc _).alloc _,RdS.nil _ _⟩
 ·have Hk3:=Qh hk3
  have hpne:e.path≠ []:=fun hp=>by have:=hke.2.2.2 hp;omega
  have Hpar:=Qh (fun w hw=>Xky I e.path w hw)
  rw [Xnc hke.2.2.1 hpne] at Hpar
  have Hdir:=Qh (fun w hw=>Xq6 I _ t Hv.out (upP e.path) w hw)
  have k4:((e.kind:Int)==4)=false:=by rw [beq_eq_false_iff_ne];omega
  have k5:((e.kind:Int)==5)=false:=by rw [beq_eq_false_iff_ne];omega
  have k6:((e.kind:Int)==6)=false:=by rw [beq_eq_false_iff_ne];omega
  clear hpne
  by_cases hde:dirErr t (upP e.path)=0
  case neg=>
   have Ha:=Qh (Xjl (t:=t) H0.out Hk3.out hde)
   obtain ⟨q,hq⟩:∃q,dirErr t (upP e.path)=q:=⟨_,rfl⟩
   have hn0:(q != 0)=true:=by rw [←hq];simpa using hde
   rw [hq] at Hdir Ha
   clear hq hde hgt
   go_enter Tryz.func143,Tryz.ntmps143
   go_wp2_with fail
   refine (Hck.out _ (hw.alloc _)).mono ?_
   rintro e1 w1 ⟨rfl,hb1⟩
   have HBx:=Qh (entB rfl hb1)
   have hok1:Ok I w1:=(hw.alloc _).below (Qn _) hb1
   have hsz1:w.heap.size<w1.heap.size:=by have:=hb1.size;simp at this;omega
   have hb1':Below w.heap.size w w1:=((Qb _ _).alloc (Qn _) _).trans (hb1.mono (by simp))
   clear hb1
   obtain ⟨c0,c1,c2,c3,c4,c5,c6⟩:=HBx.out
   go_wp2_with fail
   refine (Hgt.out _ hok1).mono ?_
   rintro e2 w2 ⟨va2,vx2,rfl,h1,h2,hb2⟩
   obtain ⟨oa,oc,rfl,_,_,_⟩:=id h1
   obtain ⟨ox,od,rfl,_,_,_⟩:=id h2
   have hok2:Ok I w2:=hok1.below (Qn _) hb2
   have hsz2:w.heap.size<w2.heap.size:=by have:=hb2.size;omega
   have hb2':=hb1'.trans (hb2.mono hb1'.size)
   have HBy:=Qh (HBx.out.thru hb2)
   clear hb2 hb1' hsz1 hok1 c0 c1 c2 c3 c4 c5 c6 HBx h1 h2
   obtain ⟨c0,c1,c2,c3,c4,c5,c6⟩:=EntB.past (EntB.past HBy.out (.cells #[.int .i64 old.kind,S old.path,.slice oa old.attrs.length oc,S old.target,.int .i64 old.size,S old.digest,.slice ox old.exts.length od] 26)) (.cells #[] 26)
   have Hst0:=Qh (show OwnS tEnt 26 I ((w2.alloc (.cells #[.int .i64 old.kind,S old.path,.slice oa old.attrs.length oc,S old.target,.int .i64 old.size,S old.digest,.slice ox old.exts.length od] 26)).alloc (.cells #[] 26)) (w2.heap.size+1) (.slice (some ⟨w2.heap.size+1,0,none⟩) 0 0) [] from Xbh _ _ (by simp))
   have HB3:=Qh (⟨c0,c1,c2,c3,c4,c5,c6⟩:EntB _ w.heap.size e _ _)
   have Hb3:=Qh (Below.alloc (B:=w.heap.size) (hb2'.alloc hb2'.size (.cells #[.int .i64 old.kind,S old.path,.slice oa old.attrs.length oc,S old.target,.int .i64 old.size,S old.digest,.slice ox old.exts.length od] 26)) (by have:=hb2'.size;simp;omega) (.cells #[] 26))
   have Hold:=Qh (EntB.past (entB (n:=w2.heap.size) (e:=old) (va:= .slice oa old.attrs.length oc) (vx:= .slice ox old.exts.length od) (t:=26) rfl (Qb _ _)) (.cells #[] 26))
   have Hfr:=Qh (fun b (hb:w2.heap.size+1≤b)=>hok2.fresh (b:=b) (by omega))
   go_wp2_with fail
   refine (Hpar.out _ ((hok2.alloc _).alloc _)).mono ?_
   rintro e4 w4 ⟨rfl,hb4⟩
   have hok4:Ok I w4:=((hok2.alloc _).alloc _).below (Qn _) hb4
   have hb4':=Hb3.out.trans (hb4.mono Hb3.out.size)
   have HB4:=Qh (HB3.out.thru hb4)
   have Hold4:=Qh (Hold.out.thru hb4)
   have Hown4:=Qh (Hst0.out.below hb4)
   have hsz4:w2.heap.size+2≤w4.heap.size:=by have:=hb4.size;simp at this;omega
   clear hb4 c0 c1 c2 c3 c4 c5 c6 Hb3 HB3 Hold Hst0
   go_wp2_with fail
   refine (Hdir.out _ hok4).mono ?_
   rintro e5 w5 ⟨rfl,hb5⟩
   have hok5:Ok I w5:=hok4.below (Qn _) hb5
   have hb5':=hb4'.trans (hb5.mono hb4'.size)
   have HB5:=Qh (HB4.out.thru hb5)
   have Hold5:=Qh (Hold4.out.thru hb5)
   have Hown5:=Qh (Hown4.out.below hb5)
   have hsz5:w2.heap.size+2≤w5.heap.size:=by have:=hb5.size;omega
   clear hb5 hb4' HB4 Hold4 Hown4
   go_wp2
   go_ret2
   rw [Ha.out]
   exact ⟨_,I,rfl,hb5',Ext.refl _ _,hok5,RdS.nil _ _⟩
  have Hde:=Qh hde
  rw [hde] at Hdir
  clear hde
  rcases hgt with ⟨rfl,hgy⟩|⟨rfl,hgn⟩
  ·obtain ⟨b1,hb1⟩:∃b,((old.kind:Int)==2)=b:=⟨_,rfl⟩
   obtain ⟨b2,hb2⟩:∃b,((e.kind:Int)==2)=b:=⟨_,rfl⟩
   have Ha0:=Qh (Xil H0.out Hk3.out Hde.out hgy)
   rw [hb1,hb2] at Ha0
   clear hgy
   cases b1<;>cases b2
   ·have Ha:=Qh (show applyT t e=(putT t e,0) by rw [Ha0.out];rfl)
    go_enter Tryz.func143,Tryz.ntmps143
    go_wp2_with fail
    refine (Hck.out _ (hw.alloc _)).mono ?_
    rintro e1 w1 ⟨rfl,hb1⟩
    have HBx:=Qh (entB rfl hb1)
    have hok1:Ok I w1:=(hw.alloc _).below (Qn _) hb1
    have hsz1:w.heap.size<w1.heap.size:=by have:=hb1.size;simp at this;omega
    have hb1':Below w.heap.size w w1:=((Qb _ _).alloc (Qn _) _).trans (hb1.mono (by simp))
    clear hb1
    obtain ⟨c0,c1,c2,c3,c4,c5,c6⟩:=HBx.out
    go_wp2_with fail
    refine (Hgt.out _ hok1).mono ?_
    rintro e2 w2 ⟨va2,vx2,rfl,h1,h2,hb2⟩
    obtain ⟨oa,oc,rfl,_,_,_⟩:=id h1
    obtain ⟨ox,od,rfl,_,_,_⟩:=id h2
    have hok2:Ok I w2:=hok1.below (Qn _) hb2
    have hsz2:w.heap.size<w2.heap.size:=by have:=hb2.size;omega
    have hb2':=hb1'.trans (hb2.mono hb1'.size)
    have HBy:=Qh (HBx.out.thru hb2)
    clear hb2 hb1' hsz1 hok1 c0 c1 c2 c3 c4 c5 c6 HBx h1 h2
    obtain ⟨c0,c1,c2,c3,c4,c5,c6⟩:=EntB.past (EntB.past HBy.out (.cells #[.int .i64 old.kind,S old.path,.slice oa old.attrs.length oc,S old.target,.int .i64 old.size,S old.digest,.slice ox old.exts.length od] 26)) (.cells #[] 26)
    have Hst0:=Qh (show OwnS tEnt 26 I ((w2.alloc (.cells #[.int .i64 old.kind,S old.path,.slice oa old.attrs.length oc,S old.target,.int .i64 old.size,S old.digest,.slice ox old.exts.length od] 26)).alloc (.cells #[] 26)) (w2.heap.size+1) (.slice (some ⟨w2.heap.size+1,0,none⟩) 0 0) [] from Xbh _ _ (by simp))
    have HB3:=Qh (⟨c0,c1,c2,c3,c4,c5,c6⟩:EntB _ w.heap.size e _ _)
    have Hb3:=Qh (Below.alloc (B:=w.heap.size) (hb2'.alloc hb2'.size (.cells #[.int .i64 old.kind,S old.path,.slice oa old.attrs.length oc,S old.target,.int .i64 old.size,S old.digest,.slice ox old.exts.length od] 26)) (by have:=hb2'.size;simp;omega) (.cells #[] 26))
    have Hold:=Qh (EntB.past (entB (n:=w2.heap.size) (e:=old) (va:= .slice oa old.attrs.length oc) (vx:= .slice ox old.exts.length od) (t:=26) rfl (Qb _ _)) (.cells #[] 26))
    have Hfr:=Qh (fun b (hb:w2.heap.size+1≤b)=>hok2.fresh (b:=b) (by omega))
    go_wp2_with fail
    refine (Hpar.out _ ((hok2.alloc _).alloc _)).mono ?_
    rintro e4 w4 ⟨rfl,hb4⟩
    have hok4:Ok I w4:=((hok2.alloc _).alloc _).below (Qn _) hb4
    have hb4':=Hb3.out.trans (hb4.mono Hb3.out.size)
    have HB4:=Qh (HB3.out.thru hb4)
    have Hold4:=Qh (Hold.out.thru hb4)
    have Hown4:=Qh (Hst0.out.below hb4)
    have hsz4:w2.heap.size+2≤w4.heap.size:=by have:=hb4.size;simp at this;omega
    clear hb4 c0 c1 c2 c3 c4 c5 c6 Hb3 HB3 Hold Hst0
    go_wp2_with fail
    refine (Hdir.out _ hok4).mono ?_
    rintro e5 w5 ⟨rfl,hb5⟩
    have hok5:Ok I w5:=hok4.below (Qn _) hb5
    have hb5':=hb4'.trans (hb5.mono hb4'.size)
    have HB5:=Qh (HB4.out.thru hb5)
    have Hold5:=Qh (Hold4.out.thru hb5)
    have Hown5:=Qh (Hown4.out.below hb5)
    have hsz5:w2.heap.size+2≤w5.heap.size:=by have:=hb5.size;omega
    clear hb5 hb4' HB4 Hold4 Hown4
    obtain ⟨c0,c1,c2,c3,c4,c5,c6⟩:=HB5.out
    obtain ⟨d0,_,_,_,_,_,_⟩:=Hold5.out
    go_wp2_with fail
    clear c0 c1 c2 c3 c4 c5 c6 d0
    go_loopw [9,15,98] (fun s9 s15 s98 wr=> ∃(k:Nat) (out:List Ent) (d:Bool),k≤t.length∧s98= .int .i64 k∧s15= .bool d∧OwnS tEnt 26 I wr (w2.heap.size+1) s9 out∧out.length≤2*k∧putTGo e d out (t.drop k)=putT t e∧EntB wr w.heap.size e (.slice aa e.attrs.length ca) (.slice ax e.exts.length cx)∧Below w.heap.size w wr∧w2.heap.size+1≤wr.heap.size) (fun _ _ i _=>t.length-(intOf i).toNat)
    case atStart=>exact ⟨0,[],false,Nat.zero_le _,rfl,rfl,Hown5.out,by simp,rfl,HB5.out,hb5',by omega⟩
    case round=>
     clear HB5 Hold5 Hown5 hb5' hok5 hsz5
     obtain ⟨k,out,d,hk,rfl,rfl,hown,hol,hr,hBe,hb,hsz⟩:=hrel
     have Hown:=Qh hown
     have HBe:=Qh hBe
     have Hr:=Qh hr
     clear hown hBe hr
     have hwr:Ok I wr:=hw.below (Qn _) hb
     by_cases hlt:k<t.length
     ·obtain ⟨x,vxa,vxx,b,off,cap',hlx,hvv,⟨x0,x1,x2,x3,x4,x5,x6⟩,h1,h2⟩:=Xbu Hv.out hwr k hlt
      cases hvv
      obtain ⟨xa,xc,rfl,_,_,_⟩:=id h1
      obtain ⟨xx,xd,rfl,_,_,_⟩:=id h2
      have Hxr:=Qh (show tEnt.rd I (entCs x (.slice xa x.attrs.length xc) (.slice xx x.exts.length xd)) x from ⟨_,_,rfl,h1,h2⟩)
      have Hst:=Qh (show putT t e=putTGo e (d || !(ltE x e)) ((if !d&& !(ltE x e) then out++ [e] else out)++(if x.path==e.path then [] else [x])) (t.drop (k+1)) by
       rw [←Hr.out,List.drop_eq_getElem_cons hlt,hlx];rfl)
      have Hcm:=Qh (fun w hw=>Xb8 I e.path x.path hpl (Hs.out x (by rw [←hlx];exact List.getElem_mem hlt)).1 w hw)
      obtain ⟨c0,c1,c2,c3,c4,c5,c6⟩:=HBe.out.past (.cells #[.int .i64 x.kind,S x.path,.slice xa x.attrs.length xc,S x.target,.int .i64 x.size,S x.digest,.slice xx x.exts.length xd] 26)
      clear hlx h1 h2
      have hxp:((x.path==e.path)=true∧(x.path != e.path)=false)∨((x.path==e.path)=false∧(x.path != e.path)=true):=by
       cases h:(x.path==e.path)<;>simp [bne,h]
      cases d
      ·rcases Xig (p:=e.path) (q:=x.path) with ⟨hl,hc⟩|⟨hl,hc⟩
       ·rw [hc] at Hcm
        have Hl:=Qh (show ltE x e=true from hl)
        clear hl hc
        go_wp2_with fail
        refine (Hcm.out _ (hwr.alloc _)).mono ?_
        rintro e4 w4 ⟨rfl,hb4⟩
        obtain ⟨y0,y1,y2,y3,y4,y5,y6⟩:=entB rfl hb4
        have hb4':=(hb.alloc hb.size _).trans (hb4.mono (by have:=hb.size;simp;omega))
        have Hown4:=Qh ((Hown.out.alloc (.cells #[.int .i64 x.kind,S x.path,.slice xa x.attrs.length xc,S x.target,.int .i64 x.size,S x.digest,.slice xx x.exts.length xd] 26)).below hb4)
        have HB4:=Qh (EntB.thru (⟨c0,c1,c2,c3,c4,c5,c6⟩:EntB (wr.alloc (.cells #[.int .i64 x.kind,S x.path,.slice xa x.attrs.length xc,S x.target,.int .i64 x.size,S x.digest,.slice xx x.exts.length xd] 26)) w.heap.size e _ _) hb4)
        have hsz4:w2.heap.size+1≤w4.heap.size:=by have:=hb4.size;simp at this;omega
        have hWx:=Hown.out.ne_ge (Qn wr.heap.size)
        have hok4:Ok I w4:=(hwr.alloc _).below (Qn _) hb4
        have hxw:wr.heap.size<w4.heap.size:=by have:=hb4.size;simp at this;omega
        clear hb4 x0 x1 x2 x3 x4 x5 x6
        obtain ⟨c0,c1,c2,c3,c4,c5,c6⟩:=HB4.out
        rcases hxp with ⟨f1,f2⟩|⟨f1,f2⟩
        ·have Hnx:=Qh (show putTGo e false out (t.drop (k+1))=putT t e by rw [Hst.out,Hl.out,f1];simp)
         go_wp2
         go_roundw
         case rel=>exact ⟨k+1,_,false,by omega,by go_num,rfl,Hown4.out,(by (try simp only [List.length_append,List.length_singleton]);omega),Hnx.out,HB4.out,hb4',hsz4⟩
         case measure=>simp [intOf];omega
        ·have Hnx:=Qh (show putTGo e false (out++ [x]) (t.drop (k+1))=putT t e by rw [Hst.out,Hl.out,f1];simp)
         go_wp2_with (at_builtin;refine Xad (w0:=w4) Xaw rfl _ _ rfl _ _ _ rfl Hown4.out x (entCs x (.slice xa x.attrs.length xc) (.slice xx x.exts.length xd)) _ (by simp [Act.eval]) Hxr.out (by (try simp only [List.length_append,List.length_singleton]);omega) (by (try simp only [List.length_append,List.length_singleton]);omega) hsz4 ?_)
         intro v9 w9 hown9 hg9
         have hb9:=Below.own hb4' hg9 Hown4.out (by omega) hsz4
         have hB9:=HB4.out.own hg9 (Hown4.out.ne_lt (by omega))
         have hs9:=hg9.size
         go_wp2
         go_roundw
         case rel=>exact ⟨k+1,_,false,by omega,by go_num,rfl,hown9,(by simp only [List.length_append,List.length_cons,List.length_nil];omega),Hnx.out,hB9,hb9,by omega⟩
         case measure=>simp [intOf];omega
       ·have Hl:=Qh (show ltE x e=false from hl)
        clear hl
        rcases hc with hc|hc
        all_goals
         rw [hc] at Hcm
         clear hc
         go_wp2_with fail
         refine (Hcm.out _ (hwr.alloc _)).mono ?_
         rintro e4 w4 ⟨rfl,hb4⟩
         obtain ⟨y0,y1,y2,y3,y4,y5,y6⟩:=entB rfl hb4
         have hb4':=(hb.alloc hb.size _).trans (hb4.mono (by have:=hb.size;simp;omega))
         have Hown4:=Qh ((Hown.out.alloc (.cells #[.int .i64 x.kind,S x.path,.slice xa x.attrs.length xc,S x.target,.int .i64 x.size,S x.digest,.slice xx x.exts.length xd] 26)).below hb4)
         have HB4:=Qh (EntB.thru (⟨c0,c1,c2,c3,c4,c5,c6⟩:EntB (wr.alloc (.cells #[.int .i64 x.kind,S x.path,.slice xa x.attrs.length xc,S x.target,.int .i64 x.size,S x.digest,.slice xx x.exts.length xd] 26)) w.heap.size e _ _) hb4)
         have hsz4:w2.heap.size+1≤w4.heap.size:=by have:=hb4.size;simp at this;omega
         have hWx:=Hown.out.ne_ge (Qn wr.heap.size)
         have hok4:Ok I w4:=(hwr.alloc _).below (Qn _) hb4
         have hxw:wr.heap.size<w4.heap.size:=by have:=hb4.size;simp at this;omega
         clear hb4 x0 x1 x2 x3 x4 x5 x6
         obtain ⟨c0,c1,c2,c3,c4,c5,c6⟩:=HB4.out
         obtain ⟨c0,c1,c2,c3,c4,c5,c6⟩:=HB4.out
         go_wp2_with (at_builtin;refine Xad (w0:=w4) Xaw rfl _ _ rfl _ _ _ rfl Hown4.out e (entCs e (.slice aa e.attrs.length ca) (.slice ax e.exts.length cx)) _ (by simp [Act.eval]) Hrd.out (by omega) (by omega) hsz4 ?_)
         intro v7 w7 hown7 hg7
         have hb7:=Below.own hb4' hg7 Hown4.out (by omega) hsz4
         have hB7:=HB4.out.own hg7 (Hown4.out.ne_lt (by omega))
         have hs7:=hg7.size
         have Hown7:=Qh hown7
         have HB7:=Qh hB7
         have hsz7:w2.heap.size+1≤w7.heap.size:=by omega
         clear c0 c1 c2 c3 c4 c5 c6 hown7 hB7 hs7
         obtain ⟨g0,g1,g2,g3,g4,g5,g6⟩:=EntB.own (⟨y0,y1,y2,y3,y4,y5,y6⟩:EntB w4 wr.heap.size x _ _) hg7 hWx
         obtain ⟨c0,c1,c2,c3,c4,c5,c6⟩:=HB7.out
         clear hg7
         rcases hxp with ⟨f1,f2⟩|⟨f1,f2⟩
         ·have Hnx:=Qh (show putTGo e true (out++ [e]) (t.drop (k+1))=putT t e by rw [Hst.out,Hl.out,f1];simp)
          go_wp2
          go_roundw
          case rel=>exact ⟨k+1,_,true,by omega,by go_num,rfl,Hown7.out,(by (try simp only [List.length_append,List.length_singleton]);omega),Hnx.out,HB7.out,hb7,hsz7⟩
          case measure=>simp [intOf];omega
         ·have Hnx:=Qh (show putTGo e true (out++ [e,x]) (t.drop (k+1))=putT t e by rw [Hst.out,Hl.out,f1];simp)
          go_wp2_with (at_builtin;refine Xad (w0:=w7) Xaw rfl _ _ rfl _ _ _ rfl Hown7.out x (entCs x (.slice xa x.attrs.length xc) (.slice xx x.exts.length xd)) _ (by simp [Act.eval]) Hxr.out (by (try simp only [List.length_append,List.length_singleton]);omega) (by (try simp only [List.length_append,List.length_singleton]);omega) hsz7 ?_)
          intro v9 w9 hown9 hg9
          have hb9:=Below.own hb7 hg9 Hown7.out (by omega) hsz7
          have hB9:=HB7.out.own hg9 (Hown7.out.ne_lt (by omega))
          have hs9:=hg9.size
          go_wp2
          go_roundw
          case rel=>exact ⟨k+1,_,true,by omega,by go_num,rfl,hown9,(by simp only [List.length_append,List.length_cons,List.length_nil];omega),Hnx.out,hB9,hb9,by omega⟩
          case measure=>simp [intOf];omega
      ·have Hown4:=Qh (Hown.out.alloc (.cells #[.int .i64 x.kind,S x.path,.slice xa x.attrs.length xc,S x.target,.int .i64 x.size,S x.digest,.slice xx x.exts.length xd] 26))
       have HB4:=Qh (⟨c0,c1,c2,c3,c4,c5,c6⟩:EntB (wr.alloc (.cells #[.int .i64 x.kind,S x.path,.slice xa x.attrs.length xc,S x.target,.int .i64 x.size,S x.digest,.slice xx x.exts.length xd] 26)) w.heap.size e _ _)
       have hb4':=hb.alloc hb.size (.cells #[.int .i64 x.kind,S x.path,.slice xa x.attrs.length xc,S x.target,.int .i64 x.size,S x.digest,.slice xx x.exts.length xd] 26)
       have hsz4:w2.heap.size+1≤(wr.alloc (.cells #[.int .i64 x.kind,S x.path,.slice xa x.attrs.length xc,S x.target,.int .i64 x.size,S x.digest,.slice xx x.exts.length xd] 26)).heap.size:=by simp;omega
       rcases hxp with ⟨f1,f2⟩|⟨f1,f2⟩
       ·have Hnx:=Qh (show putTGo e true out (t.drop (k+1))=putT t e by rw [Hst.out,f1];simp)
        go_wp2
        go_roundw
        case rel=>exact ⟨k+1,_,true,by omega,by go_num,rfl,Hown4.out,(by (try simp only [List.length_append,List.length_singleton]);omega),Hnx.out,HB4.out,hb4',hsz4⟩
        case measure=>simp [intOf];omega
       ·have Hnx:=Qh (show putTGo e true (out++ [x]) (t.drop (k+1))=putT t e by rw [Hst.out,f1];simp)
        go_wp2_with (at_builtin;refine Xad (w0:=(wr.alloc (.cells #[.int .i64 x.kind,S x.path,.slice xa x.attrs.length xc,S x.target,.int .i64 x.size,S x.digest,.slice xx x.exts.length xd] 26))) Xaw rfl _ _ rfl _ _ _ rfl Hown4.out x (entCs x (.slice xa x.attrs.length xc) (.slice xx x.exts.length xd)) _ (by simp [Act.eval]) Hxr.out (by (try simp only [List.length_append,List.length_singleton]);omega) (by (try simp only [List.length_append,List.length_singleton]);omega) hsz4 ?_)
        intro v9 w9 hown9 hg9
        have hb9:=Below.own hb4' hg9 Hown4.out (by omega) hsz4
        have hB9:=HB4.out.own hg9 (Hown4.out.ne_lt (by omega))
        have hs9:=hg9.size
        go_wp2
        go_roundw
        case rel=>exact ⟨k+1,_,true,by omega,by go_num,rfl,hown9,(by simp only [List.length_append,List.length_cons,List.length_nil];omega),Hnx.out,hB9,hb9,by omega⟩
        case measure=>simp [intOf];omega
     ·have Hend:=Qh (show putT t e=if d then out else out++ [e] by rw [←Hr.out,List.drop_of_length_le (by omega)];rfl)
      cases d
      ·obtain ⟨c0,c1,c2,c3,c4,c5,c6⟩:=HBe.out
       go_wp2_with (at_builtin;refine Xad (w0:=wr) Xaw rfl _ _ rfl _ _ _ rfl Hown.out e (entCs e (.slice aa e.attrs.length ca) (.slice ax e.exts.length cx)) _ (by simp [Act.eval]) Hrd.out (by omega) (by omega) hsz ?_)
       intro v7 w7 hown7 hg7
       have hb7:=Below.own hb hg7 Hown.out (by omega) hsz
       have hB7:=HBe.out.own hg7 (Hown.out.ne_lt (by omega))
       have hs7:=hg7.size
       have Hown7:=Qh hown7
       have HB7:=Qh hB7
       have hsz7:w2.heap.size+1≤w7.heap.size:=by omega
       clear c0 c1 c2 c3 c4 c5 c6 hown7 hB7 hs7
       have hok7:Ok I w7:=Ok.own hwr hg7 Hown.out Hfr.out
       go_wp2
       go_ret2
       rw [Ha.out,Hend.out]
       obtain ⟨I',hI1,hI2,hI3,_⟩:=Hown7.out.freeze hok7 Hfr.out
       exact ⟨_,I',rfl,hb7,hI1.mono (by omega),hI2,hI3⟩
      ·go_wp2
       go_ret2
       rw [Ha.out,Hend.out]
       obtain ⟨I',hI1,hI2,hI3,_⟩:=Hown.out.freeze hwr Hfr.out
       exact ⟨_,I',rfl,hb,hI1.mono (by omega),hI2,hI3⟩
   ·have Ha:=Qh (show applyT t e=([],8) by rw [Ha0.out];rfl)
    go_enter Tryz.func143,Tryz.ntmps143
    go_wp2_with fail
    refine (Hck.out _ (hw.alloc _)).mono ?_
    rintro e1 w1 ⟨rfl,hb1⟩
    have HBx:=Qh (entB rfl hb1)
    have hok1:Ok I w1:=(hw.alloc _).below (Qn _) hb1
    have hsz1:w.heap.size<w1.heap.size:=by have:=hb1.size;simp at this;omega
    have hb1':Below w.heap.size w w1:=((Qb _ _).alloc (Qn _) _).trans (hb1.mono (by simp))
    clear hb1
    obtain ⟨c0,c1,c2,c3,c4,c5,c6⟩:=HBx.out
    go_wp2_with fail
    refine (Hgt.out _ hok1).mono ?_
    rintro e2 w2 ⟨va2,vx2,rfl,h1,h2,hb2⟩
    obtain ⟨oa,oc,rfl,_,_,_⟩:=id h1
    obtain ⟨ox,od,rfl,_,_,_⟩:=id h2
    have hok2:Ok I w2:=hok1.below (Qn _) hb2
    have hsz2:w.heap.size<w2.heap.size:=by have:=hb2.size;omega
    have hb2':=hb1'.trans (hb2.mono hb1'.size)
    have HBy:=Qh (HBx.out.thru hb2)
    clear hb2 hb1' hsz1 hok1 c0 c1 c2 c3 c4 c5 c6 HBx h1 h2
    obtain ⟨c0,c1,c2,c3,c4,c5,c6⟩:=EntB.past (EntB.past HBy.out (.cells #[.int .i64 old.kind,S old.path,.slice oa old.attrs.length oc,S old.target,.int .i64 old.size,S old.digest,.slice ox old.exts.length od] 26)) (.cells #[] 26)
    have Hst0:=Qh (show OwnS tEnt 26 I ((w2.alloc (.cells #[.int .i64 old.kind,S old.path,.slice oa old.attrs.length oc,S old.target,.int .i64 old.size,S old.digest,.slice ox old.exts.length od] 26)).alloc (.cells #[] 26)) (w2.heap.size+1) (.slice (some ⟨w2.heap.size+1,0,none⟩) 0 0) [] from Xbh _ _ (by simp))
    have HB3:=Qh (⟨c0,c1,c2,c3,c4,c5,c6⟩:EntB _ w.heap.size e _ _)
    have Hb3:=Qh (Below.alloc (B:=w.heap.size) (hb2'.alloc hb2'.size (.cells #[.int .i64 old.kind,S old.path,.slice oa old.attrs.length oc,S old.target,.int .i64 old.size,S old.digest,.slice ox old.exts.length od] 26)) (by have:=hb2'.size;simp;omega) (.cells #[] 26))
    have Hold:=Qh (EntB.past (entB (n:=w2.heap.size) (e:=old) (va:= .slice oa old.attrs.length oc) (vx:= .slice ox old.exts.length od) (t:=26) rfl (Qb _ _)) (.cells #[] 26))
    have Hfr:=Qh (fun b (hb:w2.heap.size+1≤b)=>hok2.fresh (b:=b) (by omega))
    go_wp2_with fail
    refine (Hpar.out _ ((hok2.alloc _).alloc _)).mono ?_
    rintro e4 w4 ⟨rfl,hb4⟩
    have hok4:Ok I w4:=((hok2.alloc _).alloc _).below (Qn _) hb4
    have hb4':=Hb3.out.trans (hb4.mono Hb3.out.size)
    have HB4:=Qh (HB3.out.thru hb4)
    have Hold4:=Qh (Hold.out.thru hb4)
    have Hown4:=Qh (Hst0.out.below hb4)
    have hsz4:w2.heap.size+2≤w4.heap.size:=by have:=hb4.size;simp at this;omega
    clear hb4 c0 c1 c2 c3 c4 c5 c6 Hb3 HB3 Hold Hst0
    go_wp2_with fail
    refine (Hdir.out _ hok4).mono ?_
    rintro e5 w5 ⟨rfl,hb5⟩
    have hok5:Ok I w5:=hok4.below (Qn _) hb5
    have hb5':=hb4'.trans (hb5.mono hb4'.size)
    have HB5:=Qh (HB4.out.thru hb5)
    have Hold5:=Qh (Hold4.out.thru hb5)
    have Hown5:=Qh (Hown4.out.below hb5)
    have hsz5:w2.heap.size+2≤w5.heap.size:=by have:=hb5.size;omega
    clear hb5 hb4' HB4 Hold4 Hown4
    obtain ⟨c0,c1,c2,c3,c4,c5,c6⟩:=HB5.out
    obtain ⟨d0,_,_,_,_,_,_⟩:=Hold5.out
    go_wp2
    go_ret2
    rw [Ha.out]
    exact ⟨_,I,rfl,hb5',Ext.refl _ _,hok5,RdS.nil _ _⟩
   ·have Ha:=Qh (show applyT t e=([],8) by rw [Ha0.out];rfl)
    go_enter Tryz.func143,Tryz.ntmps143
    go_wp2_with fail
    refine (Hck.out _ (hw.alloc _)).mono ?_
    rintro e1 w1 ⟨rfl,hb1⟩
    have HBx:=Qh (entB rfl hb1)
    have hok1:Ok I w1:=(hw.alloc _).below (Qn _) hb1
    have hsz1:w.heap.size<w1.heap.size:=by have:=hb1.size;simp at this;omega
    have hb1':Below w.heap.size w w1:=((Qb _ _).alloc (Qn _) _).trans (hb1.mono (by simp))
    clear hb1
    obtain ⟨c0,c1,c2,c3,c4,c5,c6⟩:=HBx.out
    go_wp2_with fail
    refine (Hgt.out _ hok1).mono ?_
    rintro e2 w2 ⟨va2,vx2,rfl,h1,h2,hb2⟩
    obtain ⟨oa,oc,rfl,_,_,_⟩:=id h1
    obtain ⟨ox,od,rfl,_,_,_⟩:=id h2
    have hok2:Ok I w2:=hok1.below (Qn _) hb2
    have hsz2:w.heap.size<w2.heap.size:=by have:=hb2.size;omega
    have hb2':=hb1'.trans (hb2.mono hb1'.size)
    have HBy:=Qh (HBx.out.thru hb2)
    clear hb2 hb1' hsz1 hok1 c0 c1 c2 c3 c4 c5 c6 HBx h1 h2
    obtain ⟨c0,c1,c2,c3,c4,c5,c6⟩:=EntB.past (EntB.past HBy.out (.cells #[.int .i64 old.kind,S old.path,.slice oa old.attrs.length oc,S old.target,.int .i64 old.size,S old.digest,.slice ox old.exts.length od] 26)) (.cells #[] 26)
    have Hst0:=Qh (show OwnS tEnt 26 I ((w2.alloc (.cells #[.int .i64 old.kind,S old.path,.slice oa old.attrs.length oc,S old.target,.int .i64 old.size,S old.digest,.slice ox old.exts.length od] 26)).alloc (.cells #[] 26)) (w2.heap.size+1) (.slice (some ⟨w2.heap.size+1,0,none⟩) 0 0) [] from Xbh _ _ (by simp))
    have HB3:=Qh (⟨c0,c1,c2,c3,c4,c5,c6⟩:EntB _ w.heap.size e _ _)
    have Hb3:=Qh (Below.alloc (B:=w.heap.size) (hb2'.alloc hb2'.size (.cells #[.int .i64 old.kind,S old.path,.slice oa old.attrs.length oc,S old.target,.int .i64 old.size,S old.digest,.slice ox old.exts.length od] 26)) (by have:=hb2'.size;simp;omega) (.cells #[] 26))
    have Hold:=Qh (EntB.past (entB (n:=w2.heap.size) (e:=old) (va:= .slice oa old.attrs.length oc) (vx:= .slice ox old.exts.length od) (t:=26) rfl (Qb _ _)) (.cells #[] 26))
    have Hfr:=Qh (fun b (hb:w2.heap.size+1≤b)=>hok2.fresh (b:=b) (by omega))
    go_wp2_with fail
    refine (Hpar.out _ ((hok2.alloc _).alloc _)).mono ?_
    rintro e4 w4 ⟨rfl,hb4⟩
    have hok4:Ok I w4:=((hok2.alloc _).alloc _).below (Qn _) hb4
    have hb4':=Hb3.out.trans (hb4.mono Hb3.out.size)
    have HB4:=Qh (HB3.out.thru hb4)
    have Hold4:=Qh (Hold.out.thru hb4)
    have Hown4:=Qh (Hst0.out.below hb4)
    have hsz4:w2.heap.size+2≤w4.heap.size:=by have:=hb4.size;simp at this;omega
    clear hb4 c0 c1 c2 c3 c4 c5 c6 Hb3 HB3 Hold Hst0
    go_wp2_with fail
    refine (Hdir.out _ hok4).mono ?_
    rintro e5 w5 ⟨rfl,hb5⟩
    have hok5:Ok I w5:=hok4.below (Qn _) hb5
    have hb5':=hb4'.trans (hb5.mono hb4'.size)
    have HB5:=Qh (HB4.out.thru hb5)
    have Hold5:=Qh (Hold4.out.thru hb5)
    have Hown5:=Qh (Hown4.out.below hb5)
    have hsz5:w2.heap.size+2≤w5.heap.size:=by have:=hb5.size;omega
    clear hb5 hb4' HB4 Hold4 Hown4
    obtain ⟨c0,c1,c2,c3,c4,c5,c6⟩:=HB5.out
    obtain ⟨d0,_,_,_,_,_,_⟩:=Hold5.out
    go_wp2
    go_ret2
    rw [Ha.out]
    exact ⟨_,I,rfl,hb5',Ext.refl _ _,hok5,RdS.nil _ _⟩
   ·have Ha:=Qh (show applyT t e=(putT t e,0) by rw [Ha0.out];rfl)
    go_enter Tryz.func143,Tryz.ntmps143
    go_wp2_with fail
    refine (Hck.out _ (hw.alloc _)).mono ?_
    rintro e1 w1 ⟨rfl,hb1⟩
    have HBx:=Qh (entB rfl hb1)
    have hok1:Ok I w1:=(hw.alloc _).below (Qn _) hb1
    have hsz1:w.heap.size<w1.heap.size:=by have:=hb1.size;simp at this;omega
    have hb1':Below w.heap.size w w1:=((Qb _ _).alloc (Qn _) _).trans (hb1.mono (by simp))
    clear hb1
    obtain ⟨c0,c1,c2,c3,c4,c5,c6⟩:=HBx.out
    go_wp2_with fail
    refine (Hgt.out _ hok1).mono ?_
    rintro e2 w2 ⟨va2,vx2,rfl,h1,h2,hb2⟩
    obtain ⟨oa,oc,rfl,_,_,_⟩:=id h1
    obtain ⟨ox,od,rfl,_,_,_⟩:=id h2
    have hok2:Ok I w2:=hok1.below (Qn _) hb2
    have hsz2:w.heap.size<w2.heap.size:=by have:=hb2.size;omega
    have hb2':=hb1'.trans (hb2.mono hb1'.size)
    have HBy:=Qh (HBx.out.thru hb2)
    clear hb2 hb1' hsz1 hok1 c0 c1 c2 c3 c4 c5 c6 HBx h1 h2
    obtain ⟨c0,c1,c2,c3,c4,c5,c6⟩:=EntB.past (EntB.past HBy.out (.cells #[.int .i64 old.kind,S old.path,.slice oa old.attrs.length oc,S old.target,.int .i64 old.size,S old.digest,.slice ox old.exts.length od] 26)) (.cells #[] 26)
    have Hst0:=Qh (show OwnS tEnt 26 I ((w2.alloc (.cells #[.int .i64 old.kind,S old.path,.slice oa old.attrs.length oc,S old.target,.int .i64 old.size,S old.digest,.slice ox old.exts.length od] 26)).alloc (.cells #[] 26)) (w2.heap.size+1) (.slice (some ⟨w2.heap.size+1,0,none⟩) 0 0) [] from Xbh _ _ (by simp))
    have HB3:=Qh (⟨c0,c1,c2,c3,c4,c5,c6⟩:EntB _ w.heap.size e _ _)
    have Hb3:=Qh (Below.alloc (B:=w.heap.size) (hb2'.alloc hb2'.size (.cells #[.int .i64 old.kind,S old.path,.slice oa old.attrs.length oc,S old.target,.int .i64 old.size,S old.digest,.slice ox old.exts.length od] 26)) (by have:=hb2'.size;simp;omega) (.cells #[] 26))
    have Hold:=Qh (EntB.past (entB (n:=w2.heap.size) (e:=old) (va:= .slice oa old.attrs.length oc) (vx:= .slice ox old.exts.length od) (t:=26) rfl (Qb _ _)) (.cells #[] 26))
    have Hfr:=Qh (fun b (hb:w2.heap.size+1≤b)=>hok2.fresh (b:=b) (by omega))
    go_wp2_with fail
    refine (Hpar.out _ ((hok2.alloc _).alloc _)).mono ?_
    rintro e4 w4 ⟨rfl,hb4⟩
    have hok4:Ok I w4:=((hok2.alloc _).alloc _).below (Qn _) hb4
    have hb4':=Hb3.out.trans (hb4.mono Hb3.out.size)
    have HB4:=Qh (HB3.out.thru hb4)
    have Hold4:=Qh (Hold.out.thru hb4)
    have Hown4:=Qh (Hst0.out.below hb4)
    have hsz4:w2.heap.size+2≤w4.heap.size:=by have:=hb4.size;simp at this;omega
    clear hb4 c0 c1 c2 c3 c4 c5 c6 Hb3 HB3 Hold Hst0
    go_wp2_with fail
    refine (Hdir.out _ hok4).mono ?_
    rintro e5 w5 ⟨rfl,hb5⟩
    have hok5:Ok I w5:=hok4.below (Qn _) hb5
    have hb5':=hb4'.trans (hb5.mono hb4'.size)
    have HB5:=Qh (HB4.out.thru hb5)
    have Hold5:=Qh (Hold4.out.thru hb5)
    have Hown5:=Qh (Hown4.out.below hb5)
    have hsz5:w2.heap.size+2≤w5.heap.size:=by have:=hb5.size;omega
    clear hb5 hb4' HB4 Hold4 Hown4
    obtain ⟨c0,c1,c2,c3,c4,c5,c6⟩:=HB5.out
    obtain ⟨d0,_,_,_,_,_,_⟩:=Hold5.out
    go_wp2_with fail
    clear c0 c1 c2 c3 c4 c5 c6 d0
    go_loopw [9,15,98] (fun s9 s15 s98 wr=> ∃(k:Nat) (out:List Ent) (d:Bool),k≤t.length∧s98= .int .i64 k∧s15= .bool d∧OwnS tEnt 26 I wr (w2.heap.size+1) s9 out∧out.length≤2*k∧putTGo e d out (t.drop k)=putT t e∧EntB wr w.heap.size e (.slice aa e.attrs.length ca) (.slice ax e.exts.length cx)∧Below w.heap.size w wr∧w2.heap.size+1≤wr.heap.size) (fun _ _ i _=>t.length-(intOf i).toNat)
    case atStart=>exact ⟨0,[],false,Nat.zero_le _,rfl,rfl,Hown5.out,by simp,rfl,HB5.out,hb5',by omega⟩
    case round=>
     clear HB5 Hold5 Hown5 hb5' hok5 hsz5
     obtain ⟨k,out,d,hk,rfl,rfl,hown,hol,hr,hBe,hb,hsz⟩:=hrel
     have Hown:=Qh hown
     have HBe:=Qh hBe
     have Hr:=Qh hr
     clear hown hBe hr
     have hwr:Ok I wr:=hw.below (Qn _) hb
     by_cases hlt:k<t.length
     ·obtain ⟨x,vxa,vxx,b,off,cap',hlx,hvv,⟨x0,x1,x2,x3,x4,x5,x6⟩,h1,h2⟩:=Xbu Hv.out hwr k hlt
      cases hvv
      obtain ⟨xa,xc,rfl,_,_,_⟩:=id h1
      obtain ⟨xx,xd,rfl,_,_,_⟩:=id h2
      have Hxr:=Qh (show tEnt.rd I (entCs x (.slice xa x.attrs.length xc) (.slice xx x.exts.length xd)) x from ⟨_,_,rfl,h1,h2⟩)
      have Hst:=Qh (show putT t e=putTGo e (d || !(ltE x e)) ((if !d&& !(ltE x e) then out++ [e] else out)++(if x.path==e.path then [] else [x])) (t.drop (k+1)) by
       rw [←Hr.out,List.drop_eq_getElem_cons hlt,hlx];rfl)
      have Hcm:=Qh (fun w hw=>Xb8 I e.path x.path hpl (Hs.out x (by rw [←hlx];exact List.getElem_mem hlt)).1 w hw)
      obtain ⟨c0,c1,c2,c3,c4,c5,c6⟩:=HBe.out.past (.cells #[.int .i64 x.kind,S x.path,.slice xa x.attrs.length xc,S x.target,.int .i64 x.size,S x.digest,.slice xx x.exts.length xd] 26)
      clear hlx h1 h2
      have hxp:((x.path==e.path)=true∧(x.path != e.path)=false)∨((x.path==e.path)=false∧(x.path != e.path)=true):=by
       cases h:(x.path==e.path)<;>simp [bne,h]
      cases d
      ·rcases Xig (p:=e.path) (q:=x.path) with ⟨hl,hc⟩|⟨hl,hc⟩
       ·rw [hc] at Hcm
        have Hl:=Qh (show ltE x e=true from hl)
        clear hl hc
        go_wp2_with fail
        refine (Hcm.out _ (hwr.alloc _)).mono ?_
        rintro e4 w4 ⟨rfl,hb4⟩
        obtain ⟨y0,y1,y2,y3,y4,y5,y6⟩:=entB rfl hb4
        have hb4':=(hb.alloc hb.size _).trans (hb4.mono (by have:=hb.size;simp;omega))
        have Hown4:=Qh ((Hown.out.alloc (.cells #[.int .i64 x.kind,S x.path,.slice xa x.attrs.length xc,S x.target,.int .i64 x.size,S x.digest,.slice xx x.exts.length xd] 26)).below hb4)
        have HB4:=Qh (EntB.thru (⟨c0,c1,c2,c3,c4,c5,c6⟩:EntB (wr.alloc (.cells #[.int .i64 x.kind,S x.path,.slice xa x.attrs.length xc,S x.target,.int .i64 x.size,S x.digest,.slice xx x.exts.length xd] 26)) w.heap.size e _ _) hb4)
        have hsz4:w2.heap.size+1≤w4.heap.size:=by have:=hb4.size;simp at this;omega
        have hWx:=Hown.out.ne_ge (Qn wr.heap.size)
        have hok4:Ok I w4:=(hwr.alloc _).below (Qn _) hb4
        have hxw:wr.heap.size<w4.heap.size:=by have:=hb4.size;simp at this;omega
        clear hb4 x0 x1 x2 x3 x4 x5 x6
        obtain ⟨c0,c1,c2,c3,c4,c5,c6⟩:=HB4.out
        rcases hxp with ⟨f1,f2⟩|⟨f1,f2⟩
        ·have Hnx:=Qh (show putTGo e false out (t.drop (k+1))=putT t e by rw [Hst.out,Hl.out,f1];simp)
         go_wp2
         go_roundw
         case rel=>exact ⟨k+1,_,false,by omega,by go_num,rfl,Hown4.out,(by (try simp only [List.length_append,List.length_singleton]);omega),Hnx.out,HB4.out,hb4',hsz4⟩
         case measure=>simp [intOf];omega
        ·have Hnx:=Qh (show putTGo e false (out++ [x]) (t.drop (k+1))=putT t e by rw [Hst.out,Hl.out,f1];simp)
         go_wp2_with (at_builtin;refine Xad (w0:=w4) Xaw rfl _ _ rfl _ _ _ rfl Hown4.out x (entCs x (.slice xa x.attrs.length xc) (.slice xx x.exts.length xd)) _ (by simp [Act.eval]) Hxr.out (by (try simp only [List.length_append,List.length_singleton]);omega) (by (try simp only [List.length_append,List.length_singleton]);omega) hsz4 ?_)
         intro v9 w9 hown9 hg9
         have hb9:=Below.own hb4' hg9 Hown4.out (by omega) hsz4
         have hB9:=HB4.out.own hg9 (Hown4.out.ne_lt (by omega))
         have hs9:=hg9.size
         go_wp2
         go_roundw
         case rel=>exact ⟨k+1,_,false,by omega,by go_num,rfl,hown9,(by simp only [List.length_append,List.length_cons,List.length_nil];omega),Hnx.out,hB9,hb9,by omega⟩
         case measure=>simp [intOf];omega
       ·have Hl:=Qh (show ltE x e=false from hl)
        clear hl
        rcases hc with hc|hc
        all_goals
         rw [hc] at Hcm
         clear hc
         go_wp2_with fail
         refine (Hcm.out _ (hwr.alloc _)).mono ?_
         rintro e4 w4 ⟨rfl,hb4⟩
         obtain ⟨y0,y1,y2,y3,y4,y5,y6⟩:=entB rfl hb4
         have hb4':=(hb.alloc hb.size _).trans (hb4.mono (by have:=hb.size;simp;omega))
         have Hown4:=Qh ((Hown.out.alloc (.cells #[.int .i64 x.kind,S x.path,.slice xa x.attrs.length xc,S x.target,.int .i64 x.size,S x.digest,.slice xx x.exts.length xd] 26)).below hb4)
         have HB4:=Qh (EntB.thru (⟨c0,c1,c2,c3,c4,c5,c6⟩:EntB (wr.alloc (.cells #[.int .i64 x.kind,S x.path,.slice xa x.attrs.length xc,S x.target,.int .i64 x.size,S x.digest,.slice xx x.exts.length xd] 26)) w.heap.size e _ _) hb4)
         have hsz4:w2.heap.size+1≤w4.heap.size:=by have:=hb4.size;simp at this;omega
         have hWx:=Hown.out.ne_ge (Qn wr.heap.size)
         have hok4:Ok I w4:=(hwr.alloc _).below (Qn _) hb4
         have hxw:wr.heap.size<w4.heap.size:=by have:=hb4.size;simp at this;omega
         clear hb4 x0 x1 x2 x3 x4 x5 x6
         obtain ⟨c0,c1,c2,c3,c4,c5,c6⟩:=HB4.out
         obtain ⟨c0,c1,c2,c3,c4,c5,c6⟩:=HB4.out
         go_wp2_with (at_builtin;refine Xad (w0:=w4) Xaw rfl _ _ rfl _ _ _ rfl Hown4.out e (entCs e (.slice aa e.attrs.length ca) (.slice ax e.exts.length cx)) _ (by simp [Act.eval]) Hrd.out (by omega) (by omega) hsz4 ?_)
         intro v7 w7 hown7 hg7
         have hb7:=Below.own hb4' hg7 Hown4.out (by omega) hsz4
         have hB7:=HB4.out.own hg7 (Hown4.out.ne_lt (by omega))
         have hs7:=hg7.size
         have Hown7:=Qh hown7
         have HB7:=Qh hB7
         have hsz7:w2.heap.size+1≤w7.heap.size:=by omega
         clear c0 c1 c2 c3 c4 c5 c6 hown7 hB7 hs7
         obtain ⟨g0,g1,g2,g3,g4,g5,g6⟩:=EntB.own (⟨y0,y1,y2,y3,y4,y5,y6⟩:EntB w4 wr.heap.size x _ _) hg7 hWx
         obtain ⟨c0,c1,c2,c3,c4,c5,c6⟩:=HB7.out
         clear hg7
         rcases hxp with ⟨f1,f2⟩|⟨f1,f2⟩
         ·have Hnx:=Qh (show putTGo e true (out++ [e]) (t.drop (k+1))=putT t e by rw [Hst.out,Hl.out,f1];simp)
          go_wp2
          go_roundw
          case rel=>exact ⟨k+1,_,true,by omega,by go_num,rfl,Hown7.out,(by (try simp only [List.length_append,List.length_singleton]);omega),Hnx.out,HB7.out,hb7,hsz7⟩
          case measure=>simp [intOf];omega
         ·have Hnx:=Qh (show putTGo e true (out++ [e,x]) (t.drop (k+1))=putT t e by rw [Hst.out,Hl.out,f1];simp)
          go_wp2_with (at_builtin;refine Xad (w0:=w7) Xaw rfl _ _ rfl _ _ _ rfl Hown7.out x (entCs x (.slice xa x.attrs.length xc) (.slice xx x.exts.length xd)) _ (by simp [Act.eval]) Hxr.out (by (try simp only [List.length_append,List.length_singleton]);omega) (by (try simp only [List.length_append,List.length_singleton]);omega) hsz7 ?_)
          intro v9 w9 hown9 hg9
          have hb9:=Below.own hb7 hg9 Hown7.out (by omega) hsz7
          have hB9:=HB7.out.own hg9 (Hown7.out.ne_lt (by omega))
          have hs9:=hg9.size
          go_wp2
          go_roundw
          case rel=>exact ⟨k+1,_,true,by omega,by go_num,rfl,hown9,(by simp only [List.length_append,List.length_cons,List.length_nil];omega),Hnx.out,hB9,hb9,by omega⟩
          case measure=>simp [intOf];omega
      ·have Hown4:=Qh (Hown.out.alloc (.cells #[.int .i64 x.kind,S x.path,.slice xa x.attrs.length xc,S x.target,.int .i64 x.size,S x.digest,.slice xx x.exts.length xd] 26))
       have HB4:=Qh (⟨c0,c1,c2,c3,c4,c5,c6⟩:EntB (wr.alloc (.cells #[.int .i64 x.kind,S x.path,.slice xa x.attrs.length xc,S x.target,.int .i64 x.size,S x.digest,.slice xx x.exts.length xd] 26)) w.heap.size e _ _)
       have hb4':=hb.alloc hb.size (.cells #[.int .i64 x.kind,S x.path,.slice xa x.attrs.length xc,S x.target,.int .i64 x.size,S x.digest,.slice xx x.exts.length xd] 26)
       have hsz4:w2.heap.size+1≤(wr.alloc (.cells #[.int .i64 x.kind,S x.path,.slice xa x.attrs.length xc,S x.target,.int .i64 x.size,S x.digest,.slice xx x.exts.length xd] 26)).heap.size:=by simp;omega
       rcases hxp with ⟨f1,f2⟩|⟨f1,f2⟩
       ·have Hnx:=Qh (show putTGo e true out (t.drop (k+1))=putT t e by rw [Hst.out,f1];simp)
        go_wp2
        go_roundw
        case rel=>exact ⟨k+1,_,true,by omega,by go_num,rfl,Hown4.out,(by (try simp only [List.length_append,List.length_singleton]);omega),Hnx.out,HB4.out,hb4',hsz4⟩
        case measure=>simp [intOf];omega
       ·have Hnx:=Qh (show putTGo e true (out++ [x]) (t.drop (k+1))=putT t e by rw [Hst.out,f1];simp)
        go_wp2_with (at_builtin;refine Xad (w0:=(wr.alloc (.cells #[.int .i64 x.kind,S x.path,.slice xa x.attrs.length xc,S x.target,.int .i64 x.size,S x.digest,.slice xx x.exts.length xd] 26))) Xaw rfl _ _ rfl _ _ _ rfl Hown4.out x (entCs x (.slice xa x.attrs.length xc) (.slice xx x.exts.length xd)) _ (by simp [Act.eval]) Hxr.out (by (try simp only [List.length_append,List.length_singleton]);omega) (by (try simp only [List.length_append,List.length_singleton]);omega) hsz4 ?_)
        intro v9 w9 hown9 hg9
        have hb9:=Below.own hb4' hg9 Hown4.out (by omega) hsz4
        have hB9:=HB4.out.own hg9 (Hown4.out.ne_lt (by omega))
        have hs9:=hg9.size
        go_wp2
        go_roundw
        case rel=>exact ⟨k+1,_,true,by omega,by go_num,rfl,hown9,(by simp only [List.length_append,List.length_cons,List.length_nil];omega),Hnx.out,hB9,hb9,by omega⟩
        case measure=>simp [intOf];omega
     ·have Hend:=Qh (show putT t e=if d then out else out++ [e] by rw [←Hr.out,List.drop_of_length_le (by omega)];rfl)
      cases d
      ·obtain ⟨c0,c1,c2,c3,c4,c5,c6⟩:=HBe.out
       go_wp2_with (at_builtin;refine Xad (w0:=wr) Xaw rfl _ _ rfl _ _ _ rfl Hown.out e (entCs e (.slice aa e.attrs.length ca) (.slice ax e.exts.length cx)) _ (by simp [Act.eval]) Hrd.out (by omega) (by omega) hsz ?_)
       intro v7 w7 hown7 hg7
       have hb7:=Below.own hb hg7 Hown.out (by omega) hsz
       have hB7:=HBe.out.own hg7 (Hown.out.ne_lt (by omega))
       have hs7:=hg7.size
       have Hown7:=Qh hown7
       have HB7:=Qh hB7
       have hsz7:w2.heap.size+1≤w7.heap.size:=by omega
       clear c0 c1 c2 c3 c4 c5 c6 hown7 hB7 hs7
       have hok7:Ok I w7:=Ok.own hwr hg7 Hown.out Hfr.out
       go_wp2
       go_ret2
       rw [Ha.out,Hend.out]
       obtain ⟨I',hI1,hI2,hI3,_⟩:=Hown7.out.freeze hok7 Hfr.out
       exact ⟨_,I',rfl,hb7,hI1.mono (by omega),hI2,hI3⟩
      ·go_wp2
       go_ret2
       rw [Ha.out,Hend.out]
       obtain ⟨I',hI1,hI2,hI3,_⟩:=Hown.out.freeze hwr Hfr.out
       exact ⟨_,I',rfl,hb,hI1.mono (by omega),hI2,hI3⟩
  ·have Ha0:=Qh (Xim H0.out Hk3.out Hde.out hgn)
   clear hgn
   by_cases h5:5000≤t.length
   ·have hd5:decide (5000≤t.length)=true:=Qt h5
    have Ha:=Qh (show applyT t e=([],6) by rw [Ha0.out,if_pos h5])
    go_enter Tryz.func143,Tryz.ntmps143
    go_wp2_with fail
    refine (Hck.out _ (hw.alloc _)).mono ?_
    rintro e1 w1 ⟨rfl,hb1⟩
    have HBx:=Qh (entB rfl hb1)
    have hok1:Ok I w1:=(hw.alloc _).below (Qn _) hb1
    have hsz1:w.heap.size<w1.heap.size:=by have:=hb1.size;simp at this;omega
    have hb1':Below w.heap.size w w1:=((Qb _ _).alloc (Qn _) _).trans (hb1.mono (by simp))
    clear hb1
    obtain ⟨c0,c1,c2,c3,c4,c5,c6⟩:=HBx.out
    go_wp2_with fail
    refine (Hgt.out _ hok1).mono ?_
    rintro e2 w2 ⟨va2,vx2,rfl,h1,h2,hb2⟩
    obtain ⟨oa,oc,rfl,_,_,_⟩:=id h1
    obtain ⟨ox,od,rfl,_,_,_⟩:=id h2
    have hok2:Ok I w2:=hok1.below (Qn _) hb2
    have hsz2:w.heap.size<w2.heap.size:=by have:=hb2.size;omega
    have hb2':=hb1'.trans (hb2.mono hb1'.size)
    have HBy:=Qh (HBx.out.thru hb2)
    clear hb2 hb1' hsz1 hok1 c0 c1 c2 c3 c4 c5 c6 HBx h1 h2
    obtain ⟨c0,c1,c2,c3,c4,c5,c6⟩:=EntB.past (EntB.past HBy.out (.cells #[.int .i64 old.kind,S old.path,.slice oa old.attrs.length oc,S old.target,.int .i64 old.size,S old.digest,.slice ox old.exts.length od] 26)) (.cells #[] 26)
    have Hst0:=Qh (show OwnS tEnt 26 I ((w2.alloc (.cells #[.int .i64 old.kind,S old.path,.slice oa old.attrs.length oc,S old.target,.int .i64 old.size,S old.digest,.slice ox old.exts.length od] 26)).alloc (.cells #[] 26)) (w2.heap.size+1) (.slice (some ⟨w2.heap.size+1,0,none⟩) 0 0) [] from Xbh _ _ (by simp))
    have HB3:=Qh (⟨c0,c1,c2,c3,c4,c5,c6⟩:EntB _ w.heap.size e _ _)
    have Hb3:=Qh (Below.alloc (B:=w.heap.size) (hb2'.alloc hb2'.size (.cells #[.int .i64 old.kind,S old.path,.slice oa old.attrs.length oc,S old.target,.int .i64 old.size,S old.digest,.slice ox old.exts.length od] 26)) (by have:=hb2'.size;simp;omega) (.cells #[] 26))
    have Hold:=Qh (EntB.past (entB (n:=w2.heap.size) (e:=old) (va:= .slice oa old.attrs.length oc) (vx:= .slice ox old.exts.length od) (t:=26) rfl (Qb _ _)) (.cells #[] 26))
    have Hfr:=Qh (fun b (hb:w2.heap.size+1≤b)=>hok2.fresh (b:=b) (by omega))
    go_wp2_with fail
    refine (Hpar.out _ ((hok2.alloc _).alloc _)).mono ?_
    rintro e4 w4 ⟨rfl,hb4⟩
    have hok4:Ok I w4:=((hok2.alloc _).alloc _).below (Qn _) hb4
    have hb4':=Hb3.out.trans (hb4.mono Hb3.out.size)
    have HB4:=Qh (HB3.out.thru hb4)
    have Hold4:=Qh (Hold.out.thru hb4)
    have Hown4:=Qh (Hst0.out.below hb4)
    have hsz4:w2.heap.size+2≤w4.heap.size:=by have:=hb4.size;simp at this;omega
    clear hb4 c0 c1 c2 c3 c4 c5 c6 Hb3 HB3 Hold Hst0
    go_wp2_with fail
    refine (Hdir.out _ hok4).mono ?_
    rintro e5 w5 ⟨rfl,hb5⟩
    have hok5:Ok I w5:=hok4.below (Qn _) hb5
    have hb5':=hb4'.trans (hb5.mono hb4'.size)
    have HB5:=Qh (HB4.out.thru hb5)
    have Hold5:=Qh (Hold4.out.thru hb5)
    have Hown5:=Qh (Hown4.out.below hb5)
    have hsz5:w2.heap.size+2≤w5.heap.size:=by have:=hb5.size;omega
    clear hb5 hb4' HB4 Hold4 Hown4
    obtain ⟨c0,c1,c2,c3,c4,c5,c6⟩:=HB5.out
    obtain ⟨d0,_,_,_,_,_,_⟩:=Hold5.out
    go_wp2
    go_ret2
    rw [Ha.out]
    exact ⟨_,I,rfl,hb5',Ext.refl _ _,hok5,RdS.nil _ _⟩
   ·have hd5:decide (5000≤t.length)=false:=Qf h5
    have Ha:=Qh (show applyT t e=(putT t e,0) by rw [Ha0.out,if_neg h5])
    go_enter Tryz.func143,Tryz.ntmps143
    go_wp2_with fail
    refine (Hck.out _ (hw.alloc _)).mono ?_
    rintro e1 w1 ⟨rfl,hb1⟩
    have HBx:=Qh (entB rfl hb1)
    have hok1:Ok I w1:=(hw.alloc _).below (Qn _) hb1
    have hsz1:w.heap.size<w1.heap.size:=by have:=hb1.size;simp at this;omega
    have hb1':Below w.heap.size w w1:=((Qb _ _).alloc (Qn _) _).trans (hb1.mono (by simp))
    clear hb1
    obtain ⟨c0,c1,c2,c3,c4,c5,c6⟩:=HBx.out
    go_wp2_with fail
    refine (Hgt.out _ hok1).mono ?_
    rintro e2 w2 ⟨va2,vx2,rfl,h1,h2,hb2⟩
    obtain ⟨oa,oc,rfl,_,_,_⟩:=id h1
    obtain ⟨ox,od,rfl,_,_,_⟩:=id h2
    have hok2:Ok I w2:=hok1.below (Qn _) hb2
    have hsz2:w.heap.size<w2.heap.size:=by have:=hb2.size;omega
    have hb2':=hb1'.trans (hb2.mono hb1'.size)
    have HBy:=Qh (HBx.out.thru hb2)
    clear hb2 hb1' hsz1 hok1 c0 c1 c2 c3 c4 c5 c6 HBx h1 h2
    obtain ⟨c0,c1,c2,c3,c4,c5,c6⟩:=EntB.past (EntB.past HBy.out (.cells #[.int .i64 old.kind,S old.path,.slice oa old.attrs.length oc,S old.target,.int .i64 old.size,S old.digest,.slice ox old.exts.length od] 26)) (.cells #[] 26)
    have Hst0:=Qh (show OwnS tEnt 26 I ((w2.alloc (.cells #[.int .i64 old.kind,S old.path,.slice oa old.attrs.length oc,S old.target,.int .i64 old.size,S old.digest,.slice ox old.exts.length od] 26)).alloc (.cells #[] 26)) (w2.heap.size+1) (.slice (some ⟨w2.heap.size+1,0,none⟩) 0 0) [] from Xbh _ _ (by simp))
    have HB3:=Qh (⟨c0,c1,c2,c3,c4,c5,c6⟩:EntB _ w.heap.size e _ _)
    have Hb3:=Qh (Below.alloc (B:=w.heap.size) (hb2'.alloc hb2'.size (.cells #[.int .i64 old.kind,S old.path,.slice oa old.attrs.length oc,S old.target,.int .i64 old.size,S old.digest,.slice ox old.exts.length od] 26)) (by have:=hb2'.size;simp;omega) (.cells #[] 26))
    have Hold:=Qh (EntB.past (entB (n:=w2.heap.size) (e:=old) (va:= .slice oa old.attrs.length oc) (vx:= .slice ox old.exts.length od) (t:=26) rfl (Qb _ _)) (.cells #[] 26))
    have Hfr:=Qh (fun b (hb:w2.heap.size+1≤b)=>hok2.fresh (b:=b) (by omega))
    go_wp2_with fail
    refine (Hpar.out _ ((hok2.alloc _).alloc _)).mono ?_
    rintro e4 w4 ⟨rfl,hb4⟩
    have hok4:Ok I w4:=((hok2.alloc _).alloc _).below (Qn _) hb4
    have hb4':=Hb3.out.trans (hb4.mono Hb3.out.size)
    have HB4:=Qh (HB3.out.thru hb4)
    have Hold4:=Qh (Hold.out.thru hb4)
    have Hown4:=Qh (Hst0.out.below hb4)
    have hsz4:w2.heap.size+2≤w4.heap.size:=by have:=hb4.size;simp at this;omega
    clear hb4 c0 c1 c2 c3 c4 c5 c6 Hb3 HB3 Hold Hst0
    go_wp2_with fail
    refine (Hdir.out _ hok4).mono ?_
    rintro e5 w5 ⟨rfl,hb5⟩
    have hok5:Ok I w5:=hok4.below (Qn _) hb5
    have hb5':=hb4'.trans (hb5.mono hb4'.size)
    have HB5:=Qh (HB4.out.thru hb5)
    have Hold5:=Qh (Hold4.out.thru hb5)
    have Hown5:=Qh (Hown4.out.below hb5)
    have hsz5:w2.heap.size+2≤w5.heap.size:=by have:=hb5.size;omega
    clear hb5 hb4' HB4 Hold4 Hown4
    obtain ⟨c0,c1,c2,c3,c4,c5,c6⟩:=HB5.out
    obtain ⟨d0,_,_,_,_,_,_⟩:=Hold5.out
    go_wp2_with fail
    clear c0 c1 c2 c3 c4 c5 c6 d0
    go_loopw [9,15,98] (fun s9 s15 s98 wr=> ∃(k:Nat) (out:List Ent) (d:Bool),k≤t.length∧s98= .int .i64 k∧s15= .bool d∧OwnS tEnt 26 I wr (w2.heap.size+1) s9 out∧out.length≤2*k∧putTGo e d out (t.drop k)=putT t e∧EntB wr w.heap.size e (.slice aa e.attrs.length ca) (.slice ax e.exts.length cx)∧Below w.heap.size w wr∧w2.heap.size+1≤wr.heap.size) (fun _ _ i _=>t.length-(intOf i).toNat)
    case atStart=>exact ⟨0,[],false,Nat.zero_le _,rfl,rfl,Hown5.out,by simp,rfl,HB5.out,hb5',by omega⟩
    case round=>
     clear HB5 Hold5 Hown5 hb5' hok5 hsz5
     obtain ⟨k,out,d,hk,rfl,rfl,hown,hol,hr,hBe,hb,hsz⟩:=hrel
     have Hown:=Qh hown
     have HBe:=Qh hBe
     have Hr:=Qh hr
     clear hown hBe hr
     have hwr:Ok I wr:=hw.below (Qn _) hb
     by_cases hlt:k<t.length
     ·obtain ⟨x,vxa,vxx,b,off,cap',hlx,hvv,⟨x0,x1,x2,x3,x4,x5,x6⟩,h1,h2⟩:=Xbu Hv.out hwr k hlt
      cases hvv
      obtain ⟨xa,xc,rfl,_,_,_⟩:=id h1
      obtain ⟨xx,xd,rfl,_,_,_⟩:=id h2
      have Hxr:=Qh (show tEnt.rd I (entCs x (.slice xa x.attrs.length xc) (.slice xx x.exts.length xd)) x from ⟨_,_,rfl,h1,h2⟩)
      have Hst:=Qh (show putT t e=putTGo e (d || !(ltE x e)) ((if !d&& !(ltE x e) then out++ [e] else out)++(if x.path==e.path then [] else [x])) (t.drop (k+1)) by
       rw [←Hr.out,List.drop_eq_getElem_cons hlt,hlx];rfl)
      have Hcm:=Qh (fun w hw=>Xb8 I e.path x.path hpl (Hs.out x (by rw [←hlx];exact List.getElem_mem hlt)).1 w hw)
      obtain ⟨c0,c1,c2,c3,c4,c5,c6⟩:=HBe.out.past (.cells #[.int .i64 x.kind,S x.path,.slice xa x.attrs.length xc,S x.target,.int .i64 x.size,S x.digest,.slice xx x.exts.length xd] 26)
      clear hlx h1 h2
      have hxp:((x.path==e.path)=true∧(x.path != e.path)=false)∨((x.path==e.path)=false∧(x.path != e.path)=true):=by
       cases h:(x.path==e.path)<;>simp [bne,h]
      cases d
      ·rcases Xig (p:=e.path) (q:=x.path) with ⟨hl,hc⟩|⟨hl,hc⟩
       ·rw [hc] at Hcm
        have Hl:=Qh (show ltE x e=true from hl)
        clear hl hc
        go_wp2_with fail
        refine (Hcm.out _ (hwr.alloc _)).mono ?_
        rintro e4 w4 ⟨rfl,hb4⟩
        obtain ⟨y0,y1,y2,y3,y4,y5,y6⟩:=entB rfl hb4
        have hb4':=(hb.alloc hb.size _).trans (hb4.mono (by have:=hb.size;simp;omega))
        have Hown4:=Qh ((Hown.out.alloc (.cells #[.int .i64 x.kind,S x.path,.slice xa x.attrs.length xc,S x.target,.int .i64 x.size,S x.digest,.slice xx x.exts.length xd] 26)).below hb4)
        have HB4:=Qh (EntB.thru (⟨c0,c1,c2,c3,c4,c5,c6⟩:EntB (wr.alloc (.cells #[.int .i64 x.kind,S x.path,.slice xa x.attrs.length xc,S x.target,.int .i64 x.size,S x.digest,.slice xx x.exts.length xd] 26)) w.heap.size e _ _) hb4)
        have hsz4:w2.heap.size+1≤w4.heap.size:=by have:=hb4.size;simp at this;omega
        have hWx:=Hown.out.ne_ge (Qn wr.heap.size)
        have hok4:Ok I w4:=(hwr.alloc _).below (Qn _) hb4
        have hxw:wr.heap.size<w4.heap.size:=by have:=hb4.size;simp at this;omega
        clear hb4 x0 x1 x2 x3 x4 x5 x6
        obtain ⟨c0,c1,c2,c3,c4,c5,c6⟩:=HB4.out
        rcases hxp with ⟨f1,f2⟩|⟨f1,f2⟩
        ·have Hnx:=Qh (show putTGo e false out (t.drop (k+1))=putT t e by rw [Hst.out,Hl.out,f1];simp)
         go_wp2
         go_roundw
         case rel=>exact ⟨k+1,_,false,by omega,by go_num,rfl,Hown4.out,(by (try simp only [List.length_append,List.length_singleton]);omega),Hnx.out,HB4.out,hb4',hsz4⟩
         case measure=>simp [intOf];omega
        ·have Hnx:=Qh (show putTGo e false (out++ [x]) (t.drop (k+1))=putT t e by rw [Hst.out,Hl.out,f1];simp)
         go_wp2_with (at_builtin;refine Xad (w0:=w4) Xaw rfl _ _ rfl _ _ _ rfl Hown4.out x (entCs x (.slice xa x.attrs.length xc) (.slice xx x.exts.length xd)) _ (by simp [Act.eval]) Hxr.out (by (try simp only [List.length_append,List.length_singleton]);omega) (by (try simp only [List.length_append,List.length_singleton]);omega) hsz4 ?_)
         intro v9 w9 hown9 hg9
         have hb9:=Below.own hb4' hg9 Hown4.out (by omega) hsz4
         have hB9:=HB4.out.own hg9 (Hown4.out.ne_lt (by omega))
         have hs9:=hg9.size
         go_wp2
         go_roundw
         case rel=>exact ⟨k+1,_,false,by omega,by go_num,rfl,hown9,(by simp only [List.length_append,List.length_cons,List.length_nil];omega),Hnx.out,hB9,hb9,by omega⟩
         case measure=>simp [intOf];omega
       ·have Hl:=Qh (show ltE x e=false from hl)
        clear hl
        rcases hc with hc|hc
        all_goals
         rw [hc] at Hcm
         clear hc
         go_wp2_with fail
         refine (Hcm.out _ (hwr.alloc _)).mono ?_
         rintro e4 w4 ⟨rfl,hb4⟩
         obtain ⟨y0,y1,y2,y3,y4,y5,y6⟩:=entB rfl hb4
         have hb4':=(hb.alloc hb.size _).trans (hb4.mono (by have:=hb.size;simp;omega))
         have Hown4:=Qh ((Hown.out.alloc (.cells #[.int .i64 x.kind,S x.path,.slice xa x.attrs.length xc,S x.target,.int .i64 x.size,S x.digest,.slice xx x.exts.length xd] 26)).below hb4)
         have HB4:=Qh (EntB.thru (⟨c0,c1,c2,c3,c4,c5,c6⟩:EntB (wr.alloc (.cells #[.int .i64 x.kind,S x.path,.slice xa x.attrs.length xc,S x.target,.int .i64 x.size,S x.digest,.slice xx x.exts.length xd] 26)) w.heap.size e _ _) hb4)
         have hsz4:w2.heap.size+1≤w4.heap.size:=by have:=hb4.size;simp at this;omega
         have hWx:=Hown.out.ne_ge (Qn wr.heap.size)
         have hok4:Ok I w4:=(hwr.alloc _).below (Qn _) hb4
         have hxw:wr.heap.size<w4.heap.size:=by have:=hb4.size;simp at this;omega
         clear hb4 x0 x1 x2 x3 x4 x5 x6
         obtain ⟨c0,c1,c2,c3,c4,c5,c6⟩:=HB4.out
         obtain ⟨c0,c1,c2,c3,c4,c5,c6⟩:=HB4.out
         go_wp2_with (at_builtin;refine Xad (w0:=w4) Xaw rfl _ _ rfl _ _ _ rfl Hown4.out e (entCs e (.slice aa e.attrs.length ca) (.slice ax e.exts.length cx)) _ (by simp [Act.eval]) Hrd.out (by omega) (by omega) hsz4 ?_)
         intro v7 w7 hown7 hg7
         have hb7:=Below.own hb4' hg7 Hown4.out (by omega) hsz4
         have hB7:=HB4.out.own hg7 (Hown4.out.ne_lt (by omega))
         have hs7:=hg7.size
         have Hown7:=Qh hown7
         have HB7:=Qh hB7
         have hsz7:w2.heap.size+1≤w7.heap.size:=by omega
         clear c0 c1 c2 c3 c4 c5 c6 hown7 hB7 hs7
         obtain ⟨g0,g1,g2,g3,g4,g5,g6⟩:=EntB.own (⟨y0,y1,y2,y3,y4,y5,y6⟩:EntB w4 wr.heap.size x _ _) hg7 hWx
         obtain ⟨c0,c1,c2,c3,c4,c5,c6⟩:=HB7.out
         clear hg7
         rcases hxp with ⟨f1,f2⟩|⟨f1,f2⟩
         ·have Hnx:=Qh (show putTGo e true (out++ [e]) (t.drop (k+1))=putT t e by rw [Hst.out,Hl.out,f1];simp)
          go_wp2
          go_roundw
          case rel=>exact ⟨k+1,_,true,by omega,by go_num,rfl,Hown7.out,(by (try simp only [List.length_append,List.length_singleton]);omega),Hnx.out,HB7.out,hb7,hsz7⟩
          case measure=>simp [intOf];omega
         ·have Hnx:=Qh (show putTGo e true (out++ [e,x]) (t.drop (k+1))=putT t e by rw [Hst.out,Hl.out,f1];simp)
          go_wp2_with (at_builtin;refine Xad (w0:=w7) Xaw rfl _ _ rfl _ _ _ rfl Hown7.out x (entCs x (.slice xa x.attrs.length xc) (.slice xx x.exts.length xd)) _ (by simp [Act.eval]) Hxr.out (by (try simp only [List.length_append,List.length_singleton]);omega) (by (try simp only [List.length_append,List.length_singleton]);omega) hsz7 ?_)
          intro v9 w9 hown9 hg9
          have hb9:=Below.own hb7 hg9 Hown7.out (by omega) hsz7
          have hB9:=HB7.out.own hg9 (Hown7.out.ne_lt (by omega))
          have hs9:=hg9.size
          go_wp2
          go_roundw
          case rel=>exact ⟨k+1,_,true,by omega,by go_num,rfl,hown9,(by simp only [List.length_append,List.length_cons,List.length_nil];omega),Hnx.out,hB9,hb9,by omega⟩
          case measure=>simp [intOf];omega
      ·have Hown4:=Qh (Hown.out.alloc (.cells #[.int .i64 x.kind,S x.path,.slice xa x.attrs.length xc,S x.target,.int .i64 x.size,S x.digest,.slice xx x.exts.length xd] 26))
       have HB4:=Qh (⟨c0,c1,c2,c3,c4,c5,c6⟩:EntB (wr.alloc (.cells #[.int .i64 x.kind,S x.path,.slice xa x.attrs.length xc,S x.target,.int .i64 x.size,S x.digest,.slice xx x.exts.length xd] 26)) w.heap.size e _ _)
       have hb4':=hb.alloc hb.size (.cells #[.int .i64 x.kind,S x.path,.slice xa x.attrs.length xc,S x.target,.int .i64 x.size,S x.digest,.slice xx x.exts.length xd] 26)
       have hsz4:w2.heap.size+1≤(wr.alloc (.cells #[.int .i64 x.kind,S x.path,.slice xa x.attrs.length xc,S x.target,.int .i64 x.size,S x.digest,.slice xx x.exts.length xd] 26)).heap.size:=by simp;omega
       rcases hxp with ⟨f1,f2⟩|⟨f1,f2⟩
       ·have Hnx:=Qh (show putTGo e true out (t.drop (k+1))=putT t e by rw [Hst.out,f1];simp)
        go_wp2
        go_roundw
        case rel=>exact ⟨k+1,_,true,by omega,by go_num,rfl,Hown4.out,(by (try simp only [List.length_append,List.length_singleton]);omega),Hnx.out,HB4.out,hb4',hsz4⟩
        case measure=>simp [intOf];omega
       ·have Hnx:=Qh (show putTGo e true (out++ [x]) (t.drop (k+1))=putT t e by rw [Hst.out,f1];simp)
        go_wp2_with (at_builtin;refine Xad (w0:=(wr.alloc (.cells #[.int .i64 x.kind,S x.path,.slice xa x.attrs.length xc,S x.target,.int .i64 x.size,S x.digest,.slice xx x.exts.length xd] 26))) Xaw rfl _ _ rfl _ _ _ rfl Hown4.out x (entCs x (.slice xa x.attrs.length xc) (.slice xx x.exts.length xd)) _ (by simp [Act.eval]) Hxr.out (by (try simp only [List.length_append,List.length_singleton]);omega) (by (try simp only [List.length_append,List.length_singleton]);omega) hsz4 ?_)
        intro v9 w9 hown9 hg9
        have hb9:=Below.own hb4' hg9 Hown4.out (by omega) hsz4
        have hB9:=HB4.out.own hg9 (Hown4.out.ne_lt (by omega))
        have hs9:=hg9.size
        go_wp2
        go_roundw
        case rel=>exact ⟨k+1,_,true,by omega,by go_num,rfl,hown9,(by simp only [List.length_append,List.length_cons,List.length_nil];omega),Hnx.out,hB9,hb9,by omega⟩
        case measure=>simp [intOf];omega
     ·have Hend:=Qh (show putT t e=if d then out else out++ [e] by rw [←Hr.out,List.drop_of_length_le (by omega)];rfl)
      cases d
      ·obtain ⟨c0,c1,c2,c3,c4,c5,c6⟩:=HBe.out
       go_wp2_with (at_builtin;refine Xad (w0:=wr) Xaw rfl _ _ rfl _ _ _ rfl Hown.out e (entCs e (.slice aa e.attrs.length ca) (.slice ax e.exts.length cx)) _ (by simp [Act.eval]) Hrd.out (by omega) (by omega) hsz ?_)
       intro v7 w7 hown7 hg7
       have hb7:=Below.own hb hg7 Hown.out (by omega) hsz
       have hB7:=HBe.out.own hg7 (Hown.out.ne_lt (by omega))
       have hs7:=hg7.size
       have Hown7:=Qh hown7
       have HB7:=Qh hB7
       have hsz7:w2.heap.size+1≤w7.heap.size:=by omega
       clear c0 c1 c2 c3 c4 c5 c6 hown7 hB7 hs7
       have hok7:Ok I w7:=Ok.own hwr hg7 Hown.out Hfr.out
       go_wp2
       go_ret2
       rw [Ha.out,Hend.out]
       obtain ⟨I',hI1,hI2,hI3,_⟩:=Hown7.out.freeze hok7 Hfr.out
       exact ⟨_,I',rfl,hb7,hI1.mono (by omega),hI2,hI3⟩
      ·go_wp2
       go_ret2
       rw [Ha.out,Hend.out]
       obtain ⟨I',hI1,hI2,hI3,_⟩:=Hown.out.freeze hwr Hfr.out
       exact ⟨_,I',rfl,hb,hI1.mono (by omega),hI2,hI3⟩
end Go.Proofs.YtdodihnehppnmaaGreatDoor
