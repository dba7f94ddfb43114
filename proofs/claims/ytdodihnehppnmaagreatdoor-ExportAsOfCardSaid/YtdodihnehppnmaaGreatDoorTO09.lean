/-
  Walks and laws that the claim's theorem uses: texts PeB PeC, joined; comments out. Conditions: as each theorem says.
-/
import Derived.Test.YtdodihnehppnmaaGreatDoorTO06
set_option linter.all false
namespace Go.Proofs.YtdodihnehppnmaaGreatDoor
open Go.RowKit
def contP (e:Ent):Int:=
 if e.size<0∨65536<e.size∨(e.kind≠1∧e.size≠0) then 2
 else if (e.kind=1∧e.digest.length≠32)∨(e.kind≠1∧e.digest≠ []) then 1
 else if xtsErr (e.kind==1) e.exts≠0 then xtsErr (e.kind==1) e.exts
 else if xtSum e.exts≠e.size then 1 else 0
theorem Xmn (l:List Xt) (k:Nat):xtSum l=xtSum (l.take k)+xtSum (l.drop k):=by
 conv=>lhs;rw [←List.take_append_drop k l]
 simp only [xtSum,List.map_append,List.sum_append]
theorem Xtf {l:List Xt} (h:∀x∈l,xtBad x=false):0≤xtSum l:=(Xn5 l.length l rfl h).1
set_option maxRecDepth 100000 in
set_option maxHeartbeats 4000000 in
theorem Xqg (I:IH) (x:Ent) (va vx:Value) (hva:RdS tAt I va x.attrs) (hvx:RdS tXt I vx x.exts) (hwf:x.Wf) (w:World) (hw:Ok I w):
 Calls Tryz.prog 132 #[entV x va vx] w fun e w'=>e= .returned (.int .i64 (contP x))∧Below w.heap.size w w':=by
 have hlx:=hvx.len_le
 obtain ⟨ao,cap,rfl,hcap,hcm,_⟩:=id hvx
 obtain ⟨ao2,cap2,rfl,_,_,_⟩:=id hva
 have Hvx:=Qh hvx
 have hs0:=hwf.s0
 have hs1:=hwf.s1
 have hd1:=hwf.digest
 clear hvx hva hwf
 have hB0:EntB (w.alloc (.cells #[.int .i64 x.kind,S x.path,.slice ao2 x.attrs.length cap2,S x.target,.int .i64 x.size,S x.digest,.slice ao x.exts.length cap] 26)) w.heap.size x (.slice ao2 x.attrs.length cap2) (.slice ao x.exts.length cap):=entB rfl (Qb _ _)
 have HB0:=Qh hB0
 clear hB0
 by_cases hn0:x.size<0
 case pos=>
  have Hn:=Qh (show contP x=2 by rw [contP,if_pos (.inl hn0)])
  by_cases hf:x.kind=1
  ·have f1:((x.kind:Int)==1)=true:=by simpa using hf
   clear hf
   go_enter Tryz.func132,Tryz.ntmps132
   go_wp2
   go_ret
   exact ⟨Xac Hn.out.symm,(Qb _ _).alloc (Qn _) _⟩
  ·have f1:((x.kind:Int)==1)=false:=by simpa using hf
   clear hf
   go_enter Tryz.func132,Tryz.ntmps132
   go_wp2
   go_ret
   exact ⟨Xac Hn.out.symm,(Qb _ _).alloc (Qn _) _⟩
 by_cases hf:x.kind=1
 ·have f1:((x.kind:Int)==1)=true:=by simpa using hf
  have f2:((x.kind:Int) != 1)=false:=by simpa using hf
  by_cases hn6:65536<x.size
  case pos=>
   have Hn:=Qh (show contP x=2 by rw [contP,if_pos (.inr (.inl hn6))])
   clear hf
   go_enter Tryz.func132,Tryz.ntmps132
   go_wp2
   go_ret
   exact ⟨Xac Hn.out.symm,(Qb _ _).alloc (Qn _) _⟩
  by_cases hdl:x.digest.length=32
  case neg=>
   have Hn:=Qh (show contP x=1 by rw [contP,if_neg (by omega),if_pos (.inl ⟨hf,hdl⟩)])
   have z1:((x.digest.length:Int) != 32)=true:=by rw [bne_iff_ne];omega
   clear hf hdl
   go_enter Tryz.func132,Tryz.ntmps132
   go_wp2
   go_ret
   exact ⟨Xac Hn.out.symm,(Qb _ _).alloc (Qn _) _⟩
  have z1:((x.digest.length:Int) != 32)=false:=by rw [hdl];rfl
  have Hc:=Qh (show contP x=if xtsErr true x.exts≠0 then xtsErr true x.exts else if xtSum x.exts≠x.size then 1 else 0 by
   rw [contP,if_neg (by omega),if_neg (by
    rintro (⟨_,h⟩|⟨h,_⟩)
    ·exact h hdl
    ·exact h hf),f1])
  have Hfk:=Qh hf
  clear hf hdl
  go_enter Tryz.func132,Tryz.ntmps132
  go_wp2_with fail
  go_loopw [32] (fun s32 wr=> ∃k:Nat,k≤x.exts.length∧s32= .int .i64 k∧xtsErr true (x.exts.drop k)=xtsErr true x.exts∧EntB wr w.heap.size x (.slice ao2 x.attrs.length cap2) (.slice ao x.exts.length cap)∧Below w.heap.size w wr∧w.heap.size<wr.heap.size) (fun i _=>x.exts.length-(intOf i).toNat)
  case atStart=>exact ⟨0,Nat.zero_le _,rfl,rfl,HB0.out,(Qb _ _).alloc (Qn _) _,by simp⟩
  case round=>
   clear HB0
   obtain ⟨k,hk,rfl,hr,hBw,hb,hsz⟩:=hrel
   have Hr:=Qh hr;clear hr
   have HBw:=Qh hBw
   obtain ⟨c0,c1,c2,c3,c4,c5,c6⟩:=hBw
   have hwr:Ok I wr:=hw.below (Qn _) hb
   by_cases hlt:k<x.exts.length
   ·obtain ⟨y,b,off,cap',hly,hvv,e0,e1,e2⟩:=xtAt Hvx.out hwr k hlt
    cases hvv
    have Hdr:=Qh (show x.exts.drop k=y::x.exts.drop (k+1) by rw [List.drop_eq_getElem_cons hlt,hly])
    have Hst:=Qh (show contP x=if (if xtBad y then 2 else xtsErr true (x.exts.drop (k+1)))≠0 then (if xtBad y then 2 else xtsErr true (x.exts.drop (k+1))) else if xtSum x.exts≠x.size then 1 else 0 by
     rw [Hc.out,←Hr.out,Hdr.out,Xbv])
    clear hly
    by_cases h1:y.s<0
    ·have Hbad:=Qh (show contP x=2 by rw [Hst.out,if_pos (show xtBad y=true by unfold xtBad;simp;omega)];rfl)
     go_wp2
     go_ret
     exact ⟨Xac Hbad.out.symm,hb.alloc hb.size _⟩
    by_cases h2:255<y.s
    ·have Hbad:=Qh (show contP x=2 by rw [Hst.out,if_pos (show xtBad y=true by unfold xtBad;simp;omega)];rfl)
     go_wp2
     go_ret
     exact ⟨Xac Hbad.out.symm,hb.alloc hb.size _⟩
    by_cases h5:y.n<1
    ·have Hbad:=Qh (show contP x=2 by rw [Hst.out,if_pos (show xtBad y=true by unfold xtBad;simp;omega)];rfl)
     go_wp2
     go_ret
     exact ⟨Xac Hbad.out.symm,hb.alloc hb.size _⟩
    by_cases h6:65536<y.n
    ·have Hbad:=Qh (show contP x=2 by rw [Hst.out,if_pos (show xtBad y=true by unfold xtBad;simp;omega)];rfl)
     go_wp2
     go_ret
     exact ⟨Xac Hbad.out.symm,hb.alloc hb.size _⟩
    by_cases h3:y.o<0
    ·have Hbad:=Qh (show contP x=2 by rw [Hst.out,if_pos (show xtBad y=true by unfold xtBad;simp;omega)];rfl)
     go_wp2
     go_ret
     exact ⟨Xac Hbad.out.symm,hb.alloc hb.size _⟩
    by_cases h4:2147483647<y.o
    ·have Hbad:=Qh (show contP x=2 by rw [Hst.out,if_pos (show xtBad y=true by unfold xtBad;simp;omega)];rfl)
     go_wp2
     go_ret
     exact ⟨Xac Hbad.out.symm,hb.alloc hb.size _⟩
    by_cases h7:y.s=0
    ·have g7:(y.s==0)=true:=by simpa using h7
     by_cases h8:y.o=0
     ·have g8:(y.o != 0)=false:=by simpa using h8
      have Hnx:=Qh (show xtsErr true (x.exts.drop (k+1))=xtsErr true x.exts by
       rw [←Hr.out,Hdr.out,Xbv,if_neg (show ¬xtBad y=true by unfold xtBad;simp;omega)])
      go_wp2
      go_roundw
      case rel=>exact ⟨k+1,by omega,by go_num,Hnx.out,HBw.out.past _,hb.alloc hb.size _,by simp;omega⟩
      case measure=>simp [intOf];omega
     ·have g8:(y.o != 0)=true:=by simpa using h8
      have Hbad:=Qh (show contP x=2 by rw [Hst.out,if_pos (show xtBad y=true by unfold xtBad;simp;omega)];rfl)
      go_wp2
      go_ret
      exact ⟨Xac Hbad.out.symm,hb.alloc hb.size _⟩
    ·have g7:(y.s==0)=false:=by simpa using h7
     have Hnx:=Qh (show xtsErr true (x.exts.drop (k+1))=xtsErr true x.exts by
      rw [←Hr.out,Hdr.out,Xbv,if_neg (show ¬xtBad y=true by unfold xtBad;simp;omega)])
     go_wp2
     go_roundw
     case rel=>exact ⟨k+1,by omega,by go_num,Hnx.out,HBw.out.past _,hb.alloc hb.size _,by simp;omega⟩
     case measure=>simp [intOf];omega
   ·have Hx0:=Qh (show xtsErr true x.exts=0 by rw [←Hr.out,List.drop_of_length_le (by omega)];rfl)
    have Hgood:=Qh (Xg4 _ Hx0.out)
    have Hc2:=Qh (show contP x=if xtSum x.exts≠x.size then 1 else 0 by rw [Hc.out,Hx0.out];rfl)
    go_wp2_with fail
    go_loopw [5,81] (fun s5 s81 wq=> ∃(j:Nat) (r:Int),j≤x.exts.length∧s81= .int .i64 j∧s5= .int .i64 r∧0≤r∧r≤65536∧r=x.size-xtSum (x.exts.take j)∧Below w.heap.size w wq) (fun _ i _=>x.exts.length-(intOf i).toNat)
    case atStart=>exact ⟨0,x.size,Nat.zero_le _,rfl,rfl,by omega,by omega,by simp [xtSum],hb⟩
    case round=>
     clear c0 c1 c2 c3 c4 c5 c6 hwr hb
     obtain ⟨j,r,hj,rfl,rfl,hr0,hr6,hrr,hb⟩:=hrel
     have Hrr:=Qh hrr;clear hrr
     have hwr:Ok I wr:=hw.below (Qn _) hb
     by_cases hlt2:j<x.exts.length
     ·obtain ⟨y,b,off,cap',hly,hvv,e0,e1,e2⟩:=xtAt Hvx.out hwr j hlt2
      cases hvv
      have hym:xtBad y=false:=Hgood.out y (by rw [←hly];exact List.getElem_mem hlt2)
      have hyl:=Xg7 hym
      have Htk:=Qh (show xtSum (x.exts.take (j+1))=xtSum (x.exts.take j)+y.n by rw [List.take_succ_eq_append_getElem hlt2,hly,Xfu])
      clear hly hym
      by_cases hgt:r<y.n
      ·have Hn:=Qh (show contP x=1 by
        rw [Hc2.out,if_pos]
        have h1:=Xmn x.exts (j+1)
        have h2:=Xtf (l:=x.exts.drop (j+1)) fun z hz=>Hgood.out z (List.mem_of_mem_drop hz)
        have h3:=Htk.out
        have h4:=Hrr.out
        omega)
       go_wp2
       go_ret
       exact ⟨Xac Hn.out.symm,hb.alloc hb.size _⟩
      ·have hw1:IntKind.i64.wrap (r-y.n)=r-y.n:=IntWalk.i64_in _ (by omega)
       go_wp2
       go_roundw
       case rel=>exact ⟨j+1,r-y.n,by omega,by go_num,by go_num,by omega,by omega,(by have h3:=Htk.out;have h4:=Hrr.out;omega),hb.alloc hb.size _⟩
       case measure=>simp [intOf];omega
     ·have hall:x.exts.take j=x.exts:=List.take_of_length_le (by omega)
      rw [hall] at Hrr
      clear hall
      by_cases hz:r=0
      ·have z0:(r != 0)=false:=by simpa using hz
       have Hn:=Qh (show contP x=0 by rw [Hc2.out,if_neg];have:=Hrr.out;omega)
       clear hz
       go_wp2
       go_ret
       exact ⟨Xac Hn.out.symm,hb⟩
      ·have z0:(r != 0)=true:=by simpa using hz
       have Hn:=Qh (show contP x=1 by rw [Hc2.out,if_pos];have:=Hrr.out;omega)
       clear hz
       go_wp2
       go_ret
       exact ⟨Xac Hn.out.symm,hb⟩
 ·have f1:((x.kind:Int)==1)=false:=by simpa using hf
  have f2:((x.kind:Int) != 1)=true:=by simpa using hf
  by_cases hz:x.size=0
  case neg=>
   have Hn:=Qh (show contP x=2 by rw [contP,if_pos (.inr (.inr ⟨hf,hz⟩))])
   have hgt:0<x.size:=by omega
   clear hf hz
   go_enter Tryz.func132,Tryz.ntmps132
   go_wp2
   go_ret
   exact ⟨Xac Hn.out.symm,(Qb _ _).alloc (Qn _) _⟩
  have hsz1:x.size≤0:=by omega
  by_cases hdl:x.digest.length=0
  case neg=>
   have Hn:=Qh (show contP x=1 by rw [contP,if_neg (by omega),if_pos (.inr ⟨hf,fun e=>hdl (by rw [e];rfl)⟩)])
   have z1:((x.digest.length:Int) != 0)=true:=by rw [bne_iff_ne];omega
   clear hf hdl
   go_enter Tryz.func132,Tryz.ntmps132
   go_wp2
   go_ret
   exact ⟨Xac Hn.out.symm,(Qb _ _).alloc (Qn _) _⟩
  have z1:((x.digest.length:Int) != 0)=false:=by rw [hdl];rfl
  have Hc:=Qh (show contP x=if xtsErr false x.exts≠0 then xtsErr false x.exts else if xtSum x.exts≠x.size then 1 else 0 by
   rw [contP,if_neg (by omega),if_neg (by
    rintro (⟨h,_⟩|⟨_,h⟩)
    ·exact hf h
    ·exact h (List.eq_nil_of_length_eq_zero hdl)),f1])
  have Hz:=Qh hz
  clear hf hdl hz
  by_cases hl0:0<x.exts.length
  ·obtain ⟨y,b,off,cap',hly,hvv,e0,e1,e2⟩:=xtAt Hvx.out (hw.alloc (.cells #[.int .i64 x.kind,S x.path,.slice ao2 x.attrs.length cap2,S x.target,.int .i64 x.size,S x.digest,.slice ao x.exts.length cap] 26)) 0 hl0
   cases hvv
   have hxe:x.exts=y::x.exts.drop 1:=by rw [←hly,←List.drop_eq_getElem_cons hl0];rfl
   have Hn:=Qh (show contP x=1 by rw [Hc.out,hxe];rfl)
   rw [Nat.zero_mul,Nat.add_zero] at e0 e1 e2
   clear hly hxe
   go_enter Tryz.func132,Tryz.ntmps132
   go_wp2_with fail
   go_loopw [32] (fun s32 wr=>s32= .int .i64 0∧w.alloc (.cells #[.int .i64 x.kind,S x.path,.slice ao2 x.attrs.length cap2,S x.target,.int .i64 x.size,S x.digest,.slice (some ⟨b,off,none⟩) x.exts.length cap] 26)=wr) (fun _ _=>0)
   case atStart=>exact ⟨rfl,rfl⟩
   case round=>
    obtain ⟨rfl,hwr⟩:=hrel
    subst hwr
    go_wp2
    go_ret
    exact ⟨Xac Hn.out.symm,((Qb _ _).alloc (Qn _) _).alloc (by simp) _⟩
  ·have Hx0:=Qh (show x.exts= [] from List.eq_nil_of_length_eq_zero (by omega))
   have Hn:=Qh (show contP x=0 by rw [Hc.out,Hx0.out,Hz.out];rfl)
   have z0:(x.size != 0)=false:=by rw [Hz.out];rfl
   go_enter Tryz.func132,Tryz.ntmps132
   go_wp2_with fail
   go_loopw [32] (fun s32 wr=>s32= .int .i64 0∧w.alloc (.cells #[.int .i64 x.kind,S x.path,.slice ao2 x.attrs.length cap2,S x.target,.int .i64 x.size,S x.digest,.slice ao x.exts.length cap] 26)=wr) (fun _ _=>0)
   case atStart=>exact ⟨rfl,rfl⟩
   case round=>
    obtain ⟨rfl,hwr⟩:=hrel
    subst hwr
    go_wp2_with fail
    go_loopw [5,81] (fun s5 s81 wr=>s5= .int .i64 x.size∧s81= .int .i64 0∧w.alloc (.cells #[.int .i64 x.kind,S x.path,.slice ao2 x.attrs.length cap2,S x.target,.int .i64 x.size,S x.digest,.slice ao x.exts.length cap] 26)=wr) (fun _ _ _=>0)
    case atStart=>exact ⟨rfl,rfl,rfl⟩
    case round=>
     obtain ⟨rfl,rfl,hwr⟩:=hrel
     subst hwr
     go_wp2
     go_ret
     exact ⟨Xac Hn.out.symm,(Qb _ _).alloc (Qn _) _⟩
theorem Xdr (e:Ent):entErr e=
 if e.kind<1∨6<e.kind then 10
 else if pathErr e.path≠0 then pathErr e.path
 else if e.path= []∧e.kind<5 then 1
 else if chk e.attrs≠0 then chk e.attrs
 else if (e.attrs≠ []∧3<e.kind)∨targetOk e=false then 1 else contP e:=rfl
set_option maxRecDepth 100000 in
set_option maxHeartbeats 4000000 in
theorem Xg2 (I:IH) (hI:Glob I) (x:Ent) (va vx:Value) (hva:RdS tAt I va x.attrs) (hvx:RdS tXt I vx x.exts) (hwf:x.Wf) (hpl:x.path.length≤4294967280) (htl:x.target.length≤4294967280) (w:World) (hw:Ok I w):
 Calls Tryz.prog 76 #[entV x va vx] w fun e w'=>e= .returned (.int .i64 (entErr x))∧Below w.heap.size w w':=by
 have hlx:=hvx.len_le
 have hla:=hva.len_le
 have Hct:=Qh (fun w hw=>Xqg I x va vx hva hvx hwf w hw)
 have Htg:=Qh (fun w hw=>Xsm I hI x htl va vx w hw)
 obtain ⟨ao,cap,rfl,hcap,hcm,_⟩:=id hvx
 obtain ⟨ao2,cap2,rfl,hcap2,hcm2,_⟩:=id hva
 have Hva:=Qh hva
 clear hvx hva
 have Hpc:=Qh (fun w hw=>Xop I hI x.path hpl w hw)
 have Hac:=Qh (fun w hw=>Xvb I _ x.attrs Hva.out hwf.attrs w hw)
 have hs0:=hwf.s0
 have hs1:=hwf.s1
 have hk0:=hwf.k0
 have hk1:=hwf.k1
 have hd1:=hwf.digest
 clear hwf
 by_cases hkl:x.kind<1
 case pos=>
  have Hn:=Qh (show entErr x=10 by rw [Xdr,if_pos (.inl hkl)])
  go_enter Tryz.func76,Tryz.ntmps76
  go_wp2
  go_ret
  exact ⟨Xac Hn.out.symm,(Qb _ _).alloc (Qn _) _⟩
 by_cases hkg:6<x.kind
 case pos=>
  have Hn:=Qh (show entErr x=10 by rw [Xdr,if_pos (.inr hkg)])
  go_enter Tryz.func76,Tryz.ntmps76
  go_wp2
  go_ret
  exact ⟨Xac Hn.out.symm,(Qb _ _).alloc (Qn _) _⟩
 have He:=Qh (show entErr x=_ by rw [Xdr,if_neg (show ¬(x.kind<1∨6<x.kind) by omega)])
 by_cases hpe:pathErr x.path=0
 case neg=>
  obtain ⟨q,hq⟩:∃q,pathErr x.path=q:=⟨_,rfl⟩
  have hn:(q != 0)=true:=by rw [←hq];simpa using hpe
  have Hn:=Qh (show entErr x=q by rw [He.out,if_pos hpe,hq])
  rw [hq] at Hpc
  clear hq hpe
  go_enter Tryz.func76,Tryz.ntmps76
  go_wp2_with fail
  refine (Hpc.out _ (hw.alloc _)).mono ?_
  rintro e w1 ⟨rfl,hb1⟩
  have hb1':Below w.heap.size w w1:=((Qb _ _).alloc (Qn _) _).trans (hb1.mono (by simp))
  have hsz1:w.heap.size<w1.heap.size:=by have:=hb1.size;simp at this;omega
  have hok1:Ok I w1:=(hw.alloc _).below (Qn _) hb1
  obtain ⟨c0,c1,c2,c3,c4,c5,c6⟩:=entB rfl hb1
  clear hb1
  go_wp2
  go_ret
  exact ⟨Xac Hn.out.symm,hb1'⟩
 replace He:=Qh (show entErr x=_ by rw [He.out,if_neg (show ¬pathErr x.path≠0 by omega)])
 rw [hpe] at Hpc
 clear hpe
 by_cases he5:x.path= []∧x.kind<5
 case pos=>
  have Hn:=Qh (show entErr x=1 by rw [He.out,if_pos he5])
  obtain ⟨p1,p2,p3,p4⟩:=Xdv he5.1
  have k5:((x.kind:Int) != 5)=true:=by rw [bne_iff_ne];omega
  have k6:((x.kind:Int) != 6)=true:=by rw [bne_iff_ne];omega
  have hk5:=he5.2
  clear he5
  go_enter Tryz.func76,Tryz.ntmps76
  go_wp2_with fail
  refine (Hpc.out _ (hw.alloc _)).mono ?_
  rintro e w1 ⟨rfl,hb1⟩
  have hb1':Below w.heap.size w w1:=((Qb _ _).alloc (Qn _) _).trans (hb1.mono (by simp))
  have hsz1:w.heap.size<w1.heap.size:=by have:=hb1.size;simp at this;omega
  have hok1:Ok I w1:=(hw.alloc _).below (Qn _) hb1
  obtain ⟨c0,c1,c2,c3,c4,c5,c6⟩:=entB rfl hb1
  clear hb1
  go_wp2
  go_ret
  exact ⟨Xac Hn.out.symm,hb1'⟩
 replace He:=Qh (show entErr x=_ by rw [He.out,if_neg he5])
 have hpp:(((x.path== [])=true∧x.path.isEmpty=true∧(!x.path.isEmpty)=false∧(x.path != [])=false)∧(x.kind=5∨x.kind=6))∨((x.path== [])=false∧x.path.isEmpty=false∧(!x.path.isEmpty)=true∧(x.path != [])=true):=by
  by_cases h:x.path= []
  ·left;exact ⟨Xdv h,by have:=Int.not_lt.1 fun h2=>he5 ⟨h,h2⟩;omega⟩
  ·right
   exact Xcw h
 clear he5
 go_enter Tryz.func76,Tryz.ntmps76
 go_wp2_with fail
 refine (Hpc.out _ (hw.alloc _)).mono ?_
 rintro e w1 ⟨rfl,hb1⟩
 have hb1':Below w.heap.size w w1:=((Qb _ _).alloc (Qn _) _).trans (hb1.mono (by simp))
 have hsz1:w.heap.size<w1.heap.size:=by have:=hb1.size;simp at this;omega
 have hok1:Ok I w1:=(hw.alloc _).below (Qn _) hb1
 obtain ⟨c0,c1,c2,c3,c4,c5,c6⟩:=entB rfl hb1
 clear hb1
 clear Hpc
 go_upto_region 6 with fail
 go_cut [31] (fun s31 wx=>s31= .bool false∧w1=wx)
 case first=>
  rcases hpp with ⟨⟨p1,p2,p3,p4⟩,p5|p5⟩|⟨p1,p2,p3,p4⟩
  ·have k5:((x.kind:Int) != 5)=false:=by rw [p5];rfl
   clear p5
   go_wp2_with fail
   go_meet
   exact ⟨rfl,rfl⟩
  ·have k5:((x.kind:Int) != 5)=true:=by rw [p5];rfl
   have k6:((x.kind:Int) != 6)=false:=by rw [p5];rfl
   clear p5
   go_wp2_with fail
   go_meet
   exact ⟨rfl,rfl⟩
  ·go_wp2_with fail
   go_meet
   exact ⟨rfl,rfl⟩
 case rest=>
  obtain ⟨rfl,hcut⟩:=hcut
  subst hcut
  clear hpp
  go_wp2_with fail
  refine (Hac.out _ hok1).mono ?_
  rintro e w2 ⟨rfl,hb2⟩
  have hb2':=hb1'.trans (hb2.mono (Nat.le_of_lt hsz1))
  have hsz2:w.heap.size<w2.heap.size:=by have:=hb2.size;omega
  have hok2:Ok I w2:=hok1.below (Qn _) hb2
  obtain ⟨c0,c1,c2,c3,c4,c5,c6⟩:=EntB.thru (⟨c0,c1,c2,c3,c4,c5,c6⟩:EntB w1 w.heap.size x _ _) hb2
  clear hb2 hb1' hsz1 hok1
  by_cases hca:chk x.attrs=0
  case neg=>
   obtain ⟨q,hq⟩:∃q,chk x.attrs=q:=⟨_,rfl⟩
   have hn:(q != 0)=true:=by rw [←hq];simpa using hca
   have Hn:=Qh (show entErr x=q by rw [He.out,if_pos hca,hq])
   rw [hq]
   clear hq hca
   go_wp2
   go_ret
   exact ⟨Xac Hn.out.symm,hb2'⟩
  replace He:=Qh (show entErr x=_ by rw [He.out,if_neg (show ¬chk x.attrs≠0 by omega)])
  rw [hca]
  clear hca Hac
  go_upto_region 11 with fail
  go_cut [51] (fun s51 wx=> ∃w3,w3=wx∧(s51= .bool true∧entErr x=1∨s51= .bool false∧ ¬((x.attrs≠ []∧3<x.kind)∨targetOk x=false))∧Below w2.heap.size w2 w3)
  case first=>
   have hmain:x.attrs.length<1∨(0<x.attrs.length∧3<x.kind)∨(0<x.attrs.length∧x.kind≤3):=by omega
   rcases hmain with ha|⟨ha,hk3⟩|⟨ha,hk3⟩
   ·have d0:decide (0<x.attrs.length)=false:=Qf (by omega)
    have Ha0:=Qh (show x.attrs= [] from List.eq_nil_of_length_eq_zero (by omega))
    go_wp2_with fail
    refine (Htg.out _ hok2).mono ?_
    rintro e w3 ⟨rfl,hb3⟩
    cases htg:targetOk x
    ·have Hn:=Qh (show entErr x=1 by rw [He.out,if_pos (.inr htg)])
     clear htg
     go_wp2_with fail
     go_meet
     exact ⟨_,rfl,.inl ⟨rfl,Hn.out⟩,hb3⟩
    ·go_wp2_with fail
     go_meet
     refine ⟨_,rfl,.inr ⟨(by first|rfl|(congr 1;exact Qf (by omega))),?_⟩,hb3⟩
     rintro (⟨h1,h2⟩|h1)
     ·first
       |exact h1 Ha0.out
       |omega
     ·rw [htg] at h1;exact absurd h1 (by simp)
   ·have d0:decide (0<x.attrs.length)=true:=Qt ha
    have Hn:=Qh (show entErr x=1 by rw [He.out,if_pos (.inl ⟨by intro e;rw [e] at ha;simp at ha,hk3⟩)])
    go_wp2_with fail
    go_meet
    exact ⟨_,rfl,.inl ⟨(by first|rfl|(congr 1;exact Qt (by omega))),Hn.out⟩,Qb _ _⟩
   ·have d0:decide (0<x.attrs.length)=true:=Qt ha
    go_wp2_with fail
    refine (Htg.out _ hok2).mono ?_
    rintro e w3 ⟨rfl,hb3⟩
    cases htg:targetOk x
    ·have Hn:=Qh (show entErr x=1 by rw [He.out,if_pos (.inr htg)])
     clear htg
     go_wp2_with fail
     go_meet
     exact ⟨_,rfl,.inl ⟨rfl,Hn.out⟩,hb3⟩
    ·go_wp2_with fail
     go_meet
     refine ⟨_,rfl,.inr ⟨(by first|rfl|(congr 1;exact Qf (by omega))),?_⟩,hb3⟩
     rintro (⟨h1,h2⟩|h1)
     ·first
       |exact h1 Ha0.out
       |omega
     ·rw [htg] at h1;exact absurd h1 (by simp)
  case rest=>
   obtain ⟨w3,hw3,htt,hb3⟩:=hcut
   subst hw3
   have hb3':=hb2'.trans (hb3.mono (Nat.le_of_lt hsz2))
   have hok3:Ok I w3:=hok2.below (Qn _) hb3
   obtain ⟨c0,c1,c2,c3,c4,c5,c6⟩:=EntB.thru (⟨c0,c1,c2,c3,c4,c5,c6⟩:EntB w2 w.heap.size x _ _) hb3
   clear hb3 hb2' hsz2 hok2 Htg
   rcases htt with ⟨rfl,hn⟩|⟨rfl,htt⟩
   ·have Hn:=Qh hn
    clear hn
    go_wp2
    go_ret
    exact ⟨Xac Hn.out.symm,hb3'⟩
   have Hn:=Qh (show entErr x=contP x by rw [He.out,if_neg htt])
   clear htt
   go_wp2_with fail
   refine (Hct.out _ hok3).mono ?_
   rintro e w4 ⟨rfl,hb4⟩
   go_wp2
   go_ret
   exact ⟨Xac Hn.out.symm,hb3'.trans (hb4.mono hb3'.size)⟩
end Go.Proofs.YtdodihnehppnmaaGreatDoor
