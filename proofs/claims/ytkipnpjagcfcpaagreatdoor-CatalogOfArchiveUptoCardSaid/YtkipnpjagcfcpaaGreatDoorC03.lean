/-
  Walks and laws that the claim's theorem uses: texts PeB PeC PtA PtB RhA RhB RhC NeA PtC PtD, joined; comments out. Conditions: as each theorem says.
-/
import Derived.Test.YtkipnpjagcfcpaaGreatDoorC02
import Derived.Lib.MinMax
import Derived.Laws.CopyRow
set_option linter.all false
namespace Go.Proofs.YtkipnpjagcfcpaaGreatDoor
open Go.RowKit
def contP (e:Ent):Int:=
 if e.size<0∨65536<e.size∨(e.kind≠1∧e.size≠0) then 2
 else if (e.kind=1∧e.digest.length≠32)∨(e.kind≠1∧e.digest≠ []) then 1
 else if xtsErr (e.kind==1) e.exts≠0 then xtsErr (e.kind==1) e.exts
 else if xtSum e.exts≠e.size then 1 else 0
theorem Xl1 (l:List Xt) (k:Nat):xtSum l=xtSum (l.take k)+xtSum (l.drop k):=by
 conv=>lhs;rw [←List.take_append_drop k l]
 simp only [xtSum,List.map_append,List.sum_append]
theorem Xr5 {l:List Xt} (h:∀x∈l,xtBad x=false):0≤xtSum l:=(Xm0 l.length l rfl h).1
set_option maxRecDepth 100000 in
set_option maxHeartbeats 4000000 in
theorem Xov (I:IH) (x:Ent) (va vx:Value) (hva:RdS tAt I va x.attrs) (hvx:RdS tXt I vx x.exts) (hwf:x.Wf) (w:World) (hw:Ok I w):
 Calls Tryz.prog 112 #[entV x va vx] w fun e w'=>e= .returned (.int .i64 (contP x))∧Below w.heap.size w w':=by
 have hlx:=hvx.len_le
 obtain ⟨ao,cap,rfl,hcap,hcm,_⟩:=id hvx
 obtain ⟨ao2,cap2,rfl,_,_,_⟩:=id hva
 have Hvx:=Qh hvx
 have hs0:=hwf.s0
 have hs1:=hwf.s1
 have hd1:=hwf.digest
 clear hvx hva hwf
 have hB0:EntB (w.alloc (.cells #[.int .i64 x.kind,S x.path,.slice ao2 x.attrs.length cap2,S x.target,.int .i64 x.size,S x.digest,.slice ao x.exts.length cap] 35)) w.heap.size x (.slice ao2 x.attrs.length cap2) (.slice ao x.exts.length cap):=entB rfl (Qb _ _)
 have HB0:=Qh hB0
 clear hB0
 by_cases hn0:x.size<0
 case pos=>
  have Hn:=Qh (show contP x=2 by rw [contP,if_pos (.inl hn0)])
  by_cases hf:x.kind=1
  ·have f1:((x.kind:Int)==1)=true:=by simpa using hf
   clear hf
   go_enter Tryz.func112,Tryz.ntmps112
   go_wp2
   go_ret
   exact ⟨Xag Hn.out.symm,(Qb _ _).alloc (Qn _) _⟩
  ·have f1:((x.kind:Int)==1)=false:=by simpa using hf
   clear hf
   go_enter Tryz.func112,Tryz.ntmps112
   go_wp2
   go_ret
   exact ⟨Xag Hn.out.symm,(Qb _ _).alloc (Qn _) _⟩
 by_cases hf:x.kind=1
 ·have f1:((x.kind:Int)==1)=true:=by simpa using hf
  have f2:((x.kind:Int) != 1)=false:=by simpa using hf
  by_cases hn6:65536<x.size
  case pos=>
   have Hn:=Qh (show contP x=2 by rw [contP,if_pos (.inr (.inl hn6))])
   clear hf
   go_enter Tryz.func112,Tryz.ntmps112
   go_wp2
   go_ret
   exact ⟨Xag Hn.out.symm,(Qb _ _).alloc (Qn _) _⟩
  by_cases hdl:x.digest.length=32
  case neg=>
   have Hn:=Qh (show contP x=1 by rw [contP,if_neg (by omega),if_pos (.inl ⟨hf,hdl⟩)])
   have z1:((x.digest.length:Int) != 32)=true:=by rw [bne_iff_ne];omega
   clear hf hdl
   go_enter Tryz.func112,Tryz.ntmps112
   go_wp2
   go_ret
   exact ⟨Xag Hn.out.symm,(Qb _ _).alloc (Qn _) _⟩
  have z1:((x.digest.length:Int) != 32)=false:=by rw [hdl];rfl
  have Hc:=Qh (show contP x=if xtsErr true x.exts≠0 then xtsErr true x.exts else if xtSum x.exts≠x.size then 1 else 0 by
   rw [contP,if_neg (by omega),if_neg (by
    rintro (⟨_,h⟩|⟨h,_⟩)
    ·exact h hdl
    ·exact h hf),f1])
  have Hfk:=Qh hf
  clear hf hdl
  go_enter Tryz.func112,Tryz.ntmps112
  go_wp2_with fail
  go_loopw [32] (fun s32 wr=> ∃k:Nat,k≤x.exts.length∧s32= .int .i64 k∧xtsErr true (x.exts.drop k)=xtsErr true x.exts∧EntB wr w.heap.size x (.slice ao2 x.attrs.length cap2) (.slice ao x.exts.length cap)∧Below w.heap.size w wr∧w.heap.size<wr.heap.size) (fun i _=>x.exts.length-(intOf i).toNat)
  case atStart=>exact ⟨0,Nat.zero_le _,rfl,rfl,HB0.out,(Qb _ _).alloc (Qn _) _,by simp⟩
  case round=>
   clear HB0
   obtain ⟨k,hk,rfl,hr,hBw,hb,hsz⟩:=hrel
   have Hr:=Qh hr;clear hr
   have HBw:=Qh hBw
   obtain ⟨c0,c1,c2,c3,c4,c5,c6⟩:=hBw
   have hwr:Ok I wr:=hw.below (Qn _) hb
   by_cases hlt:k<x.exts.length
   ·obtain ⟨y,b,off,cap',hly,hvv,e0,e1,e2⟩:=xtAt Hvx.out hwr k hlt
    cases hvv
    have Hdr:=Qh (show x.exts.drop k=y::x.exts.drop (k+1) by rw [List.drop_eq_getElem_cons hlt,hly])
    have Hst:=Qh (show contP x=if (if xtBad y then 2 else xtsErr true (x.exts.drop (k+1)))≠0 then (if xtBad y then 2 else xtsErr true (x.exts.drop (k+1))) else if xtSum x.exts≠x.size then 1 else 0 by
     rw [Hc.out,←Hr.out,Hdr.out,Xbx])
    clear hly
    by_cases h1:y.s<0
    ·have Hbad:=Qh (show contP x=2 by rw [Hst.out,if_pos (show xtBad y=true by unfold xtBad;simp;omega)];rfl)
     go_wp2
     go_ret
     exact ⟨Xag Hbad.out.symm,hb.alloc hb.size _⟩
    by_cases h2:255<y.s
    ·have Hbad:=Qh (show contP x=2 by rw [Hst.out,if_pos (show xtBad y=true by unfold xtBad;simp;omega)];rfl)
     go_wp2
     go_ret
     exact ⟨Xag Hbad.out.symm,hb.alloc hb.size _⟩
    by_cases h5:y.n<1
    ·have Hbad:=Qh (show contP x=2 by rw [Hst.out,if_pos (show xtBad y=true by unfold xtBad;simp;omega)];rfl)
     go_wp2
     go_ret
     exact ⟨Xag Hbad.out.symm,hb.alloc hb.size _⟩
    by_cases h6:65536<y.n
    ·have Hbad:=Qh (show contP x=2 by rw [Hst.out,if_pos (show xtBad y=true by unfold xtBad;simp;omega)];rfl)
     go_wp2
     go_ret
     exact ⟨Xag Hbad.out.symm,hb.alloc hb.size _⟩
    by_cases h3:y.o<0
    ·have Hbad:=Qh (show contP x=2 by rw [Hst.out,if_pos (show xtBad y=true by unfold xtBad;simp;omega)];rfl)
     go_wp2
     go_ret
     exact ⟨Xag Hbad.out.symm,hb.alloc hb.size _⟩
    by_cases h4:2147483647<y.o
    ·have Hbad:=Qh (show contP x=2 by rw [Hst.out,if_pos (show xtBad y=true by unfold xtBad;simp;omega)];rfl)
     go_wp2
     go_ret
     exact ⟨Xag Hbad.out.symm,hb.alloc hb.size _⟩
    by_cases h7:y.s=0
    ·have g7:(y.s==0)=true:=by simpa using h7
     by_cases h8:y.o=0
     ·have g8:(y.o != 0)=false:=by simpa using h8
      have Hnx:=Qh (show xtsErr true (x.exts.drop (k+1))=xtsErr true x.exts by
       rw [←Hr.out,Hdr.out,Xbx,if_neg (show ¬xtBad y=true by unfold xtBad;simp;omega)])
      go_wp2
      go_roundw
      case rel=>exact ⟨k+1,by omega,by go_num,Hnx.out,HBw.out.past _,hb.alloc hb.size _,by simp;omega⟩
      case measure=>simp [intOf];omega
     ·have g8:(y.o != 0)=true:=by simpa using h8
      have Hbad:=Qh (show contP x=2 by rw [Hst.out,if_pos (show xtBad y=true by unfold xtBad;simp;omega)];rfl)
      go_wp2
      go_ret
      exact ⟨Xag Hbad.out.symm,hb.alloc hb.size _⟩
    ·have g7:(y.s==0)=false:=by simpa using h7
     have Hnx:=Qh (show xtsErr true (x.exts.drop (k+1))=xtsErr true x.exts by
      rw [←Hr.out,Hdr.out,Xbx,if_neg (show ¬xtBad y=true by unfold xtBad;simp;omega)])
     go_wp2
     go_roundw
     case rel=>exact ⟨k+1,by omega,by go_num,Hnx.out,HBw.out.past _,hb.alloc hb.size _,by simp;omega⟩
     case measure=>simp [intOf];omega
   ·have Hx0:=Qh (show xtsErr true x.exts=0 by rw [←Hr.out,List.drop_of_length_le (by omega)];rfl)
    have Hgood:=Qh (Xgb _ Hx0.out)
    have Hc2:=Qh (show contP x=if xtSum x.exts≠x.size then 1 else 0 by rw [Hc.out,Hx0.out];rfl)
    go_wp2_with fail
    go_loopw [5,81] (fun s5 s81 wq=> ∃(j:Nat) (r:Int),j≤x.exts.length∧s81= .int .i64 j∧s5= .int .i64 r∧0≤r∧r≤65536∧r=x.size-xtSum (x.exts.take j)∧Below w.heap.size w wq) (fun _ i _=>x.exts.length-(intOf i).toNat)
    case atStart=>exact ⟨0,x.size,Nat.zero_le _,rfl,rfl,by omega,by omega,by simp [xtSum],hb⟩
    case round=>
     clear c0 c1 c2 c3 c4 c5 c6 hwr hb
     obtain ⟨j,r,hj,rfl,rfl,hr0,hr6,hrr,hb⟩:=hrel
     have Hrr:=Qh hrr;clear hrr
     have hwr:Ok I wr:=hw.below (Qn _) hb
     by_cases hlt2:j<x.exts.length
     ·obtain ⟨y,b,off,cap',hly,hvv,e0,e1,e2⟩:=xtAt Hvx.out hwr j hlt2
      cases hvv
      have hym:xtBad y=false:=Hgood.out y (by rw [←hly];exact List.getElem_mem hlt2)
      have hyl:=Xgd hym
      have Htk:=Qh (show xtSum (x.exts.take (j+1))=xtSum (x.exts.take j)+y.n by rw [List.take_succ_eq_append_getElem hlt2,hly,Xfa])
      clear hly hym
      by_cases hgt:r<y.n
      ·have Hn:=Qh (show contP x=1 by
        rw [Hc2.out,if_pos]
        have h1:=Xl1 x.exts (j+1)
        have h2:=Xr5 (l:=x.exts.drop (j+1)) fun z hz=>Hgood.out z (List.mem_of_mem_drop hz)
        have h3:=Htk.out
        have h4:=Hrr.out
        omega)
       go_wp2
       go_ret
       exact ⟨Xag Hn.out.symm,hb.alloc hb.size _⟩
      ·have hw1:IntKind.i64.wrap (r-y.n)=r-y.n:=IntWalk.i64_in _ (by omega)
       go_wp2
       go_roundw
       case rel=>exact ⟨j+1,r-y.n,by omega,by go_num,by go_num,by omega,by omega,(by have h3:=Htk.out;have h4:=Hrr.out;omega),hb.alloc hb.size _⟩
       case measure=>simp [intOf];omega
     ·have hall:x.exts.take j=x.exts:=List.take_of_length_le (by omega)
      rw [hall] at Hrr
      clear hall
      by_cases hz:r=0
      ·have z0:(r != 0)=false:=by simpa using hz
       have Hn:=Qh (show contP x=0 by rw [Hc2.out,if_neg];have:=Hrr.out;omega)
       clear hz
       go_wp2
       go_ret
       exact ⟨Xag Hn.out.symm,hb⟩
      ·have z0:(r != 0)=true:=by simpa using hz
       have Hn:=Qh (show contP x=1 by rw [Hc2.out,if_pos];have:=Hrr.out;omega)
       clear hz
       go_wp2
       go_ret
       exact ⟨Xag Hn.out.symm,hb⟩
 ·have f1:((x.kind:Int)==1)=false:=by simpa using hf
  have f2:((x.kind:Int) != 1)=true:=by simpa using hf
  by_cases hz:x.size=0
  case neg=>
   have Hn:=Qh (show contP x=2 by rw [contP,if_pos (.inr (.inr ⟨hf,hz⟩))])
   have hgt:0<x.size:=by omega
   clear hf hz
   go_enter Tryz.func112,Tryz.ntmps112
   go_wp2
   go_ret
   exact ⟨Xag Hn.out.symm,(Qb _ _).alloc (Qn _) _⟩
  have hsz1:x.size≤0:=by omega
  by_cases hdl:x.digest.length=0
  case neg=>
   have Hn:=Qh (show contP x=1 by rw [contP,if_neg (by omega),if_pos (.inr ⟨hf,fun e=>hdl (by rw [e];rfl)⟩)])
   have z1:((x.digest.length:Int) != 0)=true:=by rw [bne_iff_ne];omega
   clear hf hdl
   go_enter Tryz.func112,Tryz.ntmps112
   go_wp2
   go_ret
   exact ⟨Xag Hn.out.symm,(Qb _ _).alloc (Qn _) _⟩
  have z1:((x.digest.length:Int) != 0)=false:=by rw [hdl];rfl
  have Hc:=Qh (show contP x=if xtsErr false x.exts≠0 then xtsErr false x.exts else if xtSum x.exts≠x.size then 1 else 0 by
   rw [contP,if_neg (by omega),if_neg (by
    rintro (⟨h,_⟩|⟨_,h⟩)
    ·exact hf h
    ·exact h (List.eq_nil_of_length_eq_zero hdl)),f1])
  have Hz:=Qh hz
  clear hf hdl hz
  by_cases hl0:0<x.exts.length
  ·obtain ⟨y,b,off,cap',hly,hvv,e0,e1,e2⟩:=xtAt Hvx.out (hw.alloc (.cells #[.int .i64 x.kind,S x.path,.slice ao2 x.attrs.length cap2,S x.target,.int .i64 x.size,S x.digest,.slice ao x.exts.length cap] 35)) 0 hl0
   cases hvv
   have hxe:x.exts=y::x.exts.drop 1:=by rw [←hly,←List.drop_eq_getElem_cons hl0];rfl
   have Hn:=Qh (show contP x=1 by rw [Hc.out,hxe];rfl)
   rw [Nat.zero_mul,Nat.add_zero] at e0 e1 e2
   clear hly hxe
   go_enter Tryz.func112,Tryz.ntmps112
   go_wp2_with fail
   go_loopw [32] (fun s32 wr=>s32= .int .i64 0∧w.alloc (.cells #[.int .i64 x.kind,S x.path,.slice ao2 x.attrs.length cap2,S x.target,.int .i64 x.size,S x.digest,.slice (some ⟨b,off,none⟩) x.exts.length cap] 35)=wr) (fun _ _=>0)
   case atStart=>exact ⟨rfl,rfl⟩
   case round=>
    obtain ⟨rfl,hwr⟩:=hrel
    subst hwr
    go_wp2
    go_ret
    exact ⟨Xag Hn.out.symm,((Qb _ _).alloc (Qn _) _).alloc (by simp) _⟩
  ·have Hx0:=Qh (show x.exts= [] from List.eq_nil_of_length_eq_zero (by omega))
   have Hn:=Qh (show contP x=0 by rw [Hc.out,Hx0.out,Hz.out];rfl)
   have z0:(x.size != 0)=false:=by rw [Hz.out];rfl
   go_enter Tryz.func112,Tryz.ntmps112
   go_wp2_with fail
   go_loopw [32] (fun s32 wr=>s32= .int .i64 0∧w.alloc (.cells #[.int .i64 x.kind,S x.path,.slice ao2 x.attrs.length cap2,S x.target,.int .i64 x.size,S x.digest,.slice ao x.exts.length cap] 35)=wr) (fun _ _=>0)
   case atStart=>exact ⟨rfl,rfl⟩
   case round=>
    obtain ⟨rfl,hwr⟩:=hrel
    subst hwr
    go_wp2_with fail
    go_loopw [5,81] (fun s5 s81 wr=>s5= .int .i64 x.size∧s81= .int .i64 0∧w.alloc (.cells #[.int .i64 x.kind,S x.path,.slice ao2 x.attrs.length cap2,S x.target,.int .i64 x.size,S x.digest,.slice ao x.exts.length cap] 35)=wr) (fun _ _ _=>0)
    case atStart=>exact ⟨rfl,rfl,rfl⟩
    case round=>
     obtain ⟨rfl,rfl,hwr⟩:=hrel
     subst hwr
     go_wp2
     go_ret
     exact ⟨Xag Hn.out.symm,(Qb _ _).alloc (Qn _) _⟩
theorem Xei (e:Ent):entErr e=
 if e.kind<1∨6<e.kind then 10
 else if pathErr e.path≠0 then pathErr e.path
 else if e.path= []∧e.kind<5 then 1
 else if chk e.attrs≠0 then chk e.attrs
 else if (e.attrs≠ []∧3<e.kind)∨targetOk e=false then 1 else contP e:=rfl
set_option maxRecDepth 100000 in
set_option maxHeartbeats 4000000 in
theorem Xe4 (I:IH) (hI:Glob I) (x:Ent) (va vx:Value) (hva:RdS tAt I va x.attrs) (hvx:RdS tXt I vx x.exts) (hwf:x.Wf) (hpl:x.path.length≤4294967280) (htl:x.target.length≤4294967280) (w:World) (hw:Ok I w):
 Calls Tryz.prog 62 #[entV x va vx] w fun e w'=>e= .returned (.int .i64 (entErr x))∧Below w.heap.size w w':=by
 have hlx:=hvx.len_le
 have hla:=hva.len_le
 have Hct:=Qh (fun w hw=>Xov I x va vx hva hvx hwf w hw)
 have Htg:=Qh (fun w hw=>Xq7 I hI x htl va vx w hw)
 obtain ⟨ao,cap,rfl,hcap,hcm,_⟩:=id hvx
 obtain ⟨ao2,cap2,rfl,hcap2,hcm2,_⟩:=id hva
 have Hva:=Qh hva
 clear hvx hva
 have Hpc:=Qh (fun w hw=>Xnc I hI x.path hpl w hw)
 have Hac:=Qh (fun w hw=>Xtz I _ x.attrs Hva.out hwf.attrs w hw)
 have hs0:=hwf.s0
 have hs1:=hwf.s1
 have hk0:=hwf.k0
 have hk1:=hwf.k1
 have hd1:=hwf.digest
 clear hwf
 by_cases hkl:x.kind<1
 case pos=>
  have Hn:=Qh (show entErr x=10 by rw [Xei,if_pos (.inl hkl)])
  go_enter Tryz.func62,Tryz.ntmps62
  go_wp2
  go_ret
  exact ⟨Xag Hn.out.symm,(Qb _ _).alloc (Qn _) _⟩
 by_cases hkg:6<x.kind
 case pos=>
  have Hn:=Qh (show entErr x=10 by rw [Xei,if_pos (.inr hkg)])
  go_enter Tryz.func62,Tryz.ntmps62
  go_wp2
  go_ret
  exact ⟨Xag Hn.out.symm,(Qb _ _).alloc (Qn _) _⟩
 have He:=Qh (show entErr x=_ by rw [Xei,if_neg (show ¬(x.kind<1∨6<x.kind) by omega)])
 by_cases hpe:pathErr x.path=0
 case neg=>
  obtain ⟨q,hq⟩:∃q,pathErr x.path=q:=⟨_,rfl⟩
  have hn:(q != 0)=true:=by rw [←hq];simpa using hpe
  have Hn:=Qh (show entErr x=q by rw [He.out,if_pos hpe,hq])
  rw [hq] at Hpc
  clear hq hpe
  go_enter Tryz.func62,Tryz.ntmps62
  go_wp2_with fail
  refine (Hpc.out _ (hw.alloc _)).mono ?_
  rintro e w1 ⟨rfl,hb1⟩
  have hb1':Below w.heap.size w w1:=((Qb _ _).alloc (Qn _) _).trans (hb1.mono (by simp))
  have hsz1:w.heap.size<w1.heap.size:=by have:=hb1.size;simp at this;omega
  have hok1:Ok I w1:=(hw.alloc _).below (Qn _) hb1
  obtain ⟨c0,c1,c2,c3,c4,c5,c6⟩:=entB rfl hb1
  clear hb1
  go_wp2
  go_ret
  exact ⟨Xag Hn.out.symm,hb1'⟩
 replace He:=Qh (show entErr x=_ by rw [He.out,if_neg (show ¬pathErr x.path≠0 by omega)])
 rw [hpe] at Hpc
 clear hpe
 by_cases he5:x.path= []∧x.kind<5
 case pos=>
  have Hn:=Qh (show entErr x=1 by rw [He.out,if_pos he5])
  obtain ⟨p1,p2,p3,p4⟩:=Xdf he5.1
  have k5:((x.kind:Int) != 5)=true:=by rw [bne_iff_ne];omega
  have k6:((x.kind:Int) != 6)=true:=by rw [bne_iff_ne];omega
  have hk5:=he5.2
  clear he5
  go_enter Tryz.func62,Tryz.ntmps62
  go_wp2_with fail
  refine (Hpc.out _ (hw.alloc _)).mono ?_
  rintro e w1 ⟨rfl,hb1⟩
  have hb1':Below w.heap.size w w1:=((Qb _ _).alloc (Qn _) _).trans (hb1.mono (by simp))
  have hsz1:w.heap.size<w1.heap.size:=by have:=hb1.size;simp at this;omega
  have hok1:Ok I w1:=(hw.alloc _).below (Qn _) hb1
  obtain ⟨c0,c1,c2,c3,c4,c5,c6⟩:=entB rfl hb1
  clear hb1
  go_wp2
  go_ret
  exact ⟨Xag Hn.out.symm,hb1'⟩
 replace He:=Qh (show entErr x=_ by rw [He.out,if_neg he5])
 have hpp:(((x.path== [])=true∧x.path.isEmpty=true∧(!x.path.isEmpty)=false∧(x.path != [])=false)∧(x.kind=5∨x.kind=6))∨((x.path== [])=false∧x.path.isEmpty=false∧(!x.path.isEmpty)=true∧(x.path != [])=true):=by
  by_cases h:x.path= []
  ·left;exact ⟨Xdf h,by have:=Int.not_lt.1 fun h2=>he5 ⟨h,h2⟩;omega⟩
  ·right
   exact Xde h
 clear he5
 go_enter Tryz.func62,Tryz.ntmps62
 go_wp2_with fail
 refine (Hpc.out _ (hw.alloc _)).mono ?_
 rintro e w1 ⟨rfl,hb1⟩
 have hb1':Below w.heap.size w w1:=((Qb _ _).alloc (Qn _) _).trans (hb1.mono (by simp))
 have hsz1:w.heap.size<w1.heap.size:=by have:=hb1.size;simp at this;omega
 have hok1:Ok I w1:=(hw.alloc _).below (Qn _) hb1
 obtain ⟨c0,c1,c2,c3,c4,c5,c6⟩:=entB rfl hb1
 clear hb1
 clear Hpc
 go_upto_region 6 with fail
 go_cut [31] (fun s31 wx=>s31= .bool false∧w1=wx)
 case first=>
  rcases hpp with ⟨⟨p1,p2,p3,p4⟩,p5|p5⟩|⟨p1,p2,p3,p4⟩
  ·have k5:((x.kind:Int) != 5)=false:=by rw [p5];rfl
   clear p5
   go_wp2_with fail
   go_meet
   exact ⟨rfl,rfl⟩
  ·have k5:((x.kind:Int) != 5)=true:=by rw [p5];rfl
   have k6:((x.kind:Int) != 6)=false:=by rw [p5];rfl
   clear p5
   go_wp2_with fail
   go_meet
   exact ⟨rfl,rfl⟩
  ·go_wp2_with fail
   go_meet
   exact ⟨rfl,rfl⟩
 case rest=>
  obtain ⟨rfl,hcut⟩:=hcut
  subst hcut
  clear hpp
  go_wp2_with fail
  refine (Hac.out _ hok1).mono ?_
  rintro e w2 ⟨rfl,hb2⟩
  have hb2':=hb1'.trans (hb2.mono (Nat.le_of_lt hsz1))
  have hsz2:w.heap.size<w2.heap.size:=by have:=hb2.size;omega
  have hok2:Ok I w2:=hok1.below (Qn _) hb2
  obtain ⟨c0,c1,c2,c3,c4,c5,c6⟩:=EntB.thru (⟨c0,c1,c2,c3,c4,c5,c6⟩:EntB w1 w.heap.size x _ _) hb2
  clear hb2 hb1' hsz1 hok1
  by_cases hca:chk x.attrs=0
  case neg=>
   obtain ⟨q,hq⟩:∃q,chk x.attrs=q:=⟨_,rfl⟩
   have hn:(q != 0)=true:=by rw [←hq];simpa using hca
   have Hn:=Qh (show entErr x=q by rw [He.out,if_pos hca,hq])
   rw [hq]
   clear hq hca
   go_wp2
   go_ret
   exact ⟨Xag Hn.out.symm,hb2'⟩
  replace He:=Qh (show entErr x=_ by rw [He.out,if_neg (show ¬chk x.attrs≠0 by omega)])
  rw [hca]
  clear hca Hac
  go_upto_region 11 with fail
  go_cut [51] (fun s51 wx=> ∃w3,w3=wx∧(s51= .bool true∧entErr x=1∨s51= .bool false∧ ¬((x.attrs≠ []∧3<x.kind)∨targetOk x=false))∧Below w2.heap.size w2 w3)
  case first=>
   have hmain:x.attrs.length<1∨(0<x.attrs.length∧3<x.kind)∨(0<x.attrs.length∧x.kind≤3):=by omega
   rcases hmain with ha|⟨ha,hk3⟩|⟨ha,hk3⟩
   ·have d0:decide (0<x.attrs.length)=false:=Qf (by omega)
    have Ha0:=Qh (show x.attrs= [] from List.eq_nil_of_length_eq_zero (by omega))
    go_wp2_with fail
    refine (Htg.out _ hok2).mono ?_
    rintro e w3 ⟨rfl,hb3⟩
    cases htg:targetOk x
    ·have Hn:=Qh (show entErr x=1 by rw [He.out,if_pos (.inr htg)])
     clear htg
     go_wp2_with fail
     go_meet
     exact ⟨_,rfl,.inl ⟨rfl,Hn.out⟩,hb3⟩
    ·go_wp2_with fail
     go_meet
     refine ⟨_,rfl,.inr ⟨(by first|rfl|(congr 1;exact Qf (by omega))),?_⟩,hb3⟩
     rintro (⟨h1,h2⟩|h1)
     ·first
       |exact h1 Ha0.out
       |omega
     ·rw [htg] at h1;exact absurd h1 (by simp)
   ·have d0:decide (0<x.attrs.length)=true:=Qt ha
    have Hn:=Qh (show entErr x=1 by rw [He.out,if_pos (.inl ⟨by intro e;rw [e] at ha;simp at ha,hk3⟩)])
    go_wp2_with fail
    go_meet
    exact ⟨_,rfl,.inl ⟨(by first|rfl|(congr 1;exact Qt (by omega))),Hn.out⟩,Qb _ _⟩
   ·have d0:decide (0<x.attrs.length)=true:=Qt ha
    go_wp2_with fail
    refine (Htg.out _ hok2).mono ?_
    rintro e w3 ⟨rfl,hb3⟩
    cases htg:targetOk x
    ·have Hn:=Qh (show entErr x=1 by rw [He.out,if_pos (.inr htg)])
     clear htg
     go_wp2_with fail
     go_meet
     exact ⟨_,rfl,.inl ⟨rfl,Hn.out⟩,hb3⟩
    ·go_wp2_with fail
     go_meet
     refine ⟨_,rfl,.inr ⟨(by first|rfl|(congr 1;exact Qf (by omega))),?_⟩,hb3⟩
     rintro (⟨h1,h2⟩|h1)
     ·first
       |exact h1 Ha0.out
       |omega
     ·rw [htg] at h1;exact absurd h1 (by simp)
  case rest=>
   obtain ⟨w3,hw3,htt,hb3⟩:=hcut
   subst hw3
   have hb3':=hb2'.trans (hb3.mono (Nat.le_of_lt hsz2))
   have hok3:Ok I w3:=hok2.below (Qn _) hb3
   obtain ⟨c0,c1,c2,c3,c4,c5,c6⟩:=EntB.thru (⟨c0,c1,c2,c3,c4,c5,c6⟩:EntB w2 w.heap.size x _ _) hb3
   clear hb3 hb2' hsz2 hok2 Htg
   rcases htt with ⟨rfl,hn⟩|⟨rfl,htt⟩
   ·have Hn:=Qh hn
    clear hn
    go_wp2
    go_ret
    exact ⟨Xag Hn.out.symm,hb3'⟩
   have Hn:=Qh (show entErr x=contP x by rw [He.out,if_neg htt])
   clear htt
   go_wp2_with fail
   refine (Hct.out _ hok3).mono ?_
   rintro e w4 ⟨rfl,hb4⟩
   go_wp2
   go_ret
   exact ⟨Xag Hn.out.symm,hb3'.trans (hb4.mono hb3'.size)⟩
def PredE (g:Nat) (cb:Array Value) (l:List Ent) (p:Ent→Bool) (C:World→Prop):Prop:=
 ∀x∈l,∀(a1 a2:Option Addr) (c1 c2:Nat) (W:World),C W→Calls Tryz.prog g (#[entV x (.slice a1 x.attrs.length c1) (.slice a2 x.exts.length c2)]++cb) W fun e w'=>e= .returned (.bool (p x))∧Below W.heap.size W w'
set_option maxRecDepth 100000 in
set_option maxHeartbeats 400000 in
theorem Xeb (I:IH) (v:Value) (l:List Ent) (hv:RdS tEnt I v l) (g:Nat) (cb:Array Value) (p:Ent→Bool) (w:World) (hw:Ok I w) (eg:∀args w,(callFunc g args).run Tryz.prog w= .ok (.enter g args) w) (hp:PredE g cb l p (Below w.heap.size w)):
 Calls Tryz.prog 259 #[v,.func (.func g) #[] cb] w fun e w'=>e= .returned (.int .i64 (idxL l p))∧Below w.heap.size w w':=by
 have hlen:=hv.len_le
 obtain ⟨ao,cap,rfl,hcap,hcm,_⟩:=id hv
 have Hv:=Qh hv;clear hv
 have Hp:=Qh hp;clear hp
 go_enter Tryz.func259,Tryz.ntmps259
 go_wp2_with fail
 go_loopw [8] (fun s8 wr=> ∃k:Nat,k≤l.length∧s8= .int .i64 k∧(l.take k).any p=false∧Below w.heap.size w wr) (fun i _=>l.length-(intOf i).toNat)
 case atStart=>exact ⟨0,Nat.zero_le _,rfl,rfl,Qb _ _⟩
 case round=>
  obtain ⟨k,hk,rfl,hr,hb⟩:=hrel
  have Hr:=Qh hr;clear hr
  by_cases hlt:k<l.length
  ·have hwr:Ok I wr:=hw.below (Qn _) hb
   obtain ⟨x,va,vx,b,off,cap',hlx,hvv,⟨c0,c1,c2,c3,c4,c5,c6⟩,h1,h2⟩:=Xe3 Hv.out hwr k hlt
   cases hvv
   obtain ⟨aa,ca,rfl,_,_,_⟩:=id h1
   obtain ⟨ax,cx,rfl,_,_,_⟩:=id h2
   have Hlx:=Qh hlx
   have Hcall:=Qh (Hp.out x (by rw [←hlx];exact List.getElem_mem hlt) aa ax ca cx wr hb)
   clear hlx h1 h2
   go_wp2_with fail
   refine Hcall.out.mono ?_
   rintro e w1 ⟨rfl,hb1⟩
   have hb1':=hb.trans (hb1.mono hb.size)
   clear hb1 Hcall c0 c1 c2 c3 c4 c5 c6
   cases hpx:p x
   ·have Hn:=Qh (show (l.take (k+1)).any p=false by rw [List.take_succ_eq_append_getElem hlt,List.any_append,Hr.out,Hlx.out];simp [hpx])
    clear hpx
    go_wp2
    go_roundw
    case rel=>exact ⟨k+1,by omega,by go_num,Hn.out,hb1'⟩
    case measure=>simp [intOf];omega
   ·have Hn:=Qh (Xg7 (p:=p) hlt (by rw [Hlx.out];exact hpx) Hr.out)
    clear hpx
    go_wp2
    go_ret
    exact ⟨Xag Hn.out.symm,hb1'⟩
  ·have Hn:=Qh (show idxL l p= -1 from Xg8 (by have:=Hr.out;rwa [List.take_of_length_le (by omega)] at this))
   go_wp2
   go_ret
   exact ⟨Xag Hn.out.symm,hb⟩
set_option maxRecDepth 100000 in
theorem Xtl (key:Bytes) (b:Nat) (l:List Ent) (w:World) (hc:w.cell? ⟨b,0,none⟩=some (S key)):PredE 260 #[.pointer (some ⟨b,0,none⟩)] l (fun x=>x.path==key) (Below w.heap.size w):=by
 intro x _ a1 a2 c1 c2 W hW
 have hcW:=Xaa hW hc
 have hc2:=Xab (.cells #[.int .i64 x.kind,S x.path,.slice a1 x.attrs.length c1,S x.target,.int .i64 x.size,S x.digest,.slice a2 x.exts.length c2] 35) hcW
 clear hc hcW
 go_enter Tryz.func260,Tryz.ntmps260
 go_wp2
 go_ret
 exact ⟨rfl,(Qb _ _).alloc (Qn _) _⟩
abbrev isAt (p:Bytes):Ent→Bool:=fun x=>x.path==p
set_option maxRecDepth 100000 in
set_option maxHeartbeats 400000 in
theorem Xrc (I:IH) (v:Value) (t:List Ent) (hv:RdS tEnt I v t) (p:Bytes) (w:World) (hw:Ok I w):
 Calls Tryz.prog 194 #[v,S p] w fun e w'=>e= .returned (.int .i64 (idxL t (isAt p)))∧Below w.heap.size w w':=by
 have Hp:=Qh (Xtl p w.heap.size t (w.alloc (.cells #[S p] 9)) (by simp))
 have Hi:=Qh (Xeb I v t hv _ _ _ _ (hw.alloc _) (fun _ _=>by kernel_rfl) Hp.out)
 obtain ⟨ao,cap,rfl,hcap,hcm,_⟩:=id hv
 clear hv
 obtain ⟨q,hq⟩:∃q,idxL t (isAt p)=q:=⟨_,rfl⟩
 have Hq:=Qh hq
 have Hi2:=Qh (Hi.out)
 clear Hi hq
 rw [show (fun x:Ent=>x.path==p)=isAt p from rfl,Hq.out] at Hi2
 rw [Hq.out]
 go_enter Tryz.func194,Tryz.ntmps194
 go_wp2_with fail
 refine Hi2.out.mono ?_
 rintro e w1 ⟨rfl,hb1⟩
 go_wp2
 go_ret
 exact ⟨rfl,((Qb _ _).alloc (Qn _) _).trans (hb1.mono (by simp))⟩
theorem Xk1 {t:List Ent} {p:Bytes} {i:Nat} (hi:i<t.length) (hp:isAt p t[i]=true) (hn:(t.take i).any (isAt p)=false):getE t p=(t[i],true):=by
 have:getT t p=some t[i]:=by
  unfold getT
  conv=>lhs;rw [←List.take_append_drop i t]
  rw [List.find?_append,List.drop_eq_getElem_cons hi,List.find?_cons]
  have h2:(t[i].path==p)=true:=hp
  rw [h2]
  have:(t.take i).find? (fun x=>x.path==p)=none:=by
   rw [List.find?_eq_none]
   intro x hx hpx
   rw [List.any_eq_true.2 ⟨x,hx,hpx⟩] at hn
   exact absurd hn (by simp)
  rw [this];rfl
 rw [getE,this]
theorem Xk2 {t:List Ent} {p:Bytes} (hn:t.any (isAt p)=false):getE t p=(zeroE,false):=by
 have:getT t p=none:=by
  unfold getT
  rw [List.find?_eq_none]
  intro x hx hpx
  rw [List.any_eq_true.2 ⟨x,hx,hpx⟩] at hn
  exact absurd hn (by simp)
 rw [getE,this]
set_option maxRecDepth 100000 in
set_option maxHeartbeats 1000000 in
theorem Xub (I:IH) (v:Value) (t:List Ent) (hv:RdS tEnt I v t) (p:Bytes) (w:World) (hw:Ok I w):
 Calls Tryz.prog 172 #[v,S p] w (RetG I w (getE t p)):=by
 have hlen:=hv.len_le
 have Hf:=Qh (Xrc I v t hv p (w.alloc (.cells zeroRow 35)) (hw.alloc _))
 obtain ⟨ao,cap,rfl,hcap,hcm,_⟩:=id hv
 have Hv:=Qh hv;clear hv
 have hi7:(Tryz.prog.info? 35).map (·.size)=some 7:=by kernel_rfl
 have hz0:=heap_alloc_new w (.cells zeroRow 35)
 have Hz0:=Qh hz0
 clear hz0
 rcases Xcd t (isAt p) with ⟨i,hi,e1,e2,e3⟩|⟨e1,e2⟩
 ·have Hn:=Qh (Xk1 hi e2 e3)
  rw [e1] at Hf
  clear e1 e2 e3
  go_enter Tryz.func172,Tryz.ntmps172
  go_wp2_with fail
  refine Hf.out.mono ?_
  rintro e w1 ⟨rfl,hb1⟩
  have hok1:Ok I w1:=(hw.alloc _).below (Qn _) hb1
  have hsz:w.heap.size<w1.heap.size:=by have:=hb1.size;simp at this;omega
  have Hz:=Qh ((hb1.block w.heap.size (by simp)).trans Hz0.out)
  have hb1':=((Qb w.heap.size w).alloc (Qn _) (.cells zeroRow 35)).trans (hb1.mono (by simp))
  clear hb1
  obtain ⟨x,va,vx,b,off,cap',hlx,hvv,⟨c0,c1,c2,c3,c4,c5,c6⟩,h1,h2⟩:=Xe3 Hv.out hok1 i hi
  cases hvv
  obtain ⟨aa,ca,rfl,_,_,_⟩:=id h1
  obtain ⟨ax,cx,rfl,_,_,_⟩:=id h2
  have H1:=Qh h1
  have H2:=Qh h2
  rw [hlx] at Hn
  have hone:=Xou h1 h2
  clear hlx h1 h2
  go_wp2_with (refine wpList_store_row rfl 35 _ _ rfl w.heap.size (entRow x (.slice aa x.attrs.length ca) (.slice ax x.exts.length cx)) rfl rfl 35 zeroRow Hz.out hi7 rfl hone ?_)
  try simp only [Exit.inBlock,Exit.then]
  refine bodyPost_ret (v:= .tuple #[entV x (.slice aa x.attrs.length ca) (.slice ax x.exts.length cx),.bool true]) ?_ rfl ?_
  ·rw [results_cell_tmp rfl]
   simp [asAddr,run_loadVar_row _ w.heap.size 35 35 (entRow x (.slice aa x.attrs.length ca) (.slice ax x.exts.length cx)) (0,0) _ (setRow_heap _ _ _ _ _ _ Hz.out) Tryz.underlying35 rfl hi7]
  ·rw [Hn.out]
   exact ⟨_,_,rfl,H1.out,H2.out,below_setRow hb1' (Qn _) _⟩
 ·have Hn:=Qh (Xk2 e2)
  rw [e1] at Hf
  clear e1 e2
  go_enter Tryz.func172,Tryz.ntmps172
  go_wp2_with fail
  refine Hf.out.mono ?_
  rintro e w1 ⟨rfl,hb1⟩
  have Hz:=Qh ((hb1.block w.heap.size (by simp)).trans Hz0.out)
  have hb1':=((Qb w.heap.size w).alloc (Qn _) (.cells zeroRow 35)).trans (hb1.mono (by simp))
  clear hb1
  have hzo:zeroRow.all (·.oneCell')=true:=by simp [Value.oneCell']
  go_wp2_with (refine wpList_store_row rfl 35 _ _ rfl w.heap.size zeroRow rfl rfl 35 zeroRow Hz.out hi7 rfl hzo ?_)
  try simp only [Exit.inBlock,Exit.then]
  refine bodyPost_ret (v:= .tuple #[.agg zeroRow,.bool false]) ?_ rfl ?_
  ·rw [results_cell_tmp rfl]
   simp [asAddr,run_loadVar_row _ w.heap.size 35 35 zeroRow (0,0) _ (setRow_heap _ _ _ _ _ _ Hz.out) Tryz.underlying35 rfl hi7]
  ·rw [Hn.out]
   exact ⟨.slice none 0 0,.slice none 0 0,rfl,RdS.nil _ _,RdS.nil _ _,below_setRow hb1' (Qn _) _⟩
set_option maxRecDepth 100000 in
set_option maxHeartbeats 400000 in
theorem Xlb (I:IH) (v:Value) (t:List Ent) (hv:RdS tEnt I v t) (p:Bytes) (w:World) (hw:Ok I w):
 Calls Tryz.prog 106 #[v,S p] w fun e w'=>e= .returned (.int .i64 (dirErr t p))∧Below w.heap.size w w':=by
 have Hg:=Qh (Xub I v t hv p w hw)
 obtain ⟨ao,cap,rfl,hcap,hcm,_⟩:=id hv
 clear hv
 by_cases hp:p= []
 ·obtain ⟨p1,p2,p3,p4⟩:=Xdf hp
  have Hn:=Qh (show dirErr t p=0 by rw [dirErr,if_pos hp])
  clear hp
  generalize getE t p=g at Hg
  obtain ⟨x,b⟩:=g
  go_enter Tryz.func106,Tryz.ntmps106
  go_wp2_with fail
  refine Hg.out.mono ?_
  rintro e w1 ⟨va,vx,rfl,h1,h2,hb1⟩
  obtain ⟨aa,ca,rfl,_,_,_⟩:=id h1
  obtain ⟨ax,cx,rfl,_,_,_⟩:=id h2
  clear h1 h2
  go_wp2
  go_ret
  exact ⟨Xag Hn.out.symm,hb1.alloc hb1.size _⟩
 ·obtain ⟨p1,p2,p3,p4⟩:=Xde hp
  have Hn:=Qh (Xox t p hp)
  clear hp
  generalize getE t p=g at Hn Hg
  obtain ⟨x,b⟩:=g
  go_enter Tryz.func106,Tryz.ntmps106
  go_wp2_with fail
  refine Hg.out.mono ?_
  rintro e w1 ⟨va,vx,rfl,h1,h2,hb1⟩
  obtain ⟨aa,ca,rfl,_,_,_⟩:=id h1
  obtain ⟨ax,cx,rfl,_,_,_⟩:=id h2
  clear h1 h2
  cases b
  ·have Hn2:=Qh (show dirErr t p=9 by rw [Hn.out];rfl)
   go_wp2
   go_ret
   exact ⟨Xag Hn2.out.symm,hb1.alloc hb1.size _⟩
  ·by_cases hk:x.kind=2
   ·have k1:((x.kind:Int) != 2)=false:=by simpa using hk
    have Hn2:=Qh (show dirErr t p=0 by rw [Hn.out];simp [hk])
    clear hk
    go_wp2
    go_ret
    exact ⟨Xag Hn2.out.symm,hb1.alloc hb1.size _⟩
   ·have k1:((x.kind:Int) != 2)=true:=by simpa using hk
    have Hn2:=Qh (show dirErr t p=10 by rw [Hn.out];simp [hk])
    clear hk
    go_wp2
    go_ret
    exact ⟨Xag Hn2.out.symm,hb1.alloc hb1.size _⟩
def inT (k:Int):Bool:=decide (k=1) || decide (k=2) || decide (k=3)
theorem inT_iff {k:Int}:inT k=true↔k=1∨k=2∨k=3:=by simp [inT,or_assoc]
set_option maxRecDepth 100000 in
theorem Xrb (k:Int) (w:World):Calls Tryz.prog 103 #[.int .i64 k] w fun e w'=>e= .returned (.bool (inT k))∧w=w':=by
 by_cases h1:k=1
 ·have Hn:=Qh (show inT k=true from inT_iff.2 (.inl h1))
  have f1:((k:Int)==1)=true:=by simpa using h1
  clear h1
  go_enter Tryz.func103,Tryz.ntmps103
  go_wp2
  go_ret
  exact ⟨Xa2 Hn.out.symm,rfl⟩
 by_cases h2:k=2
 ·have Hn:=Qh (show inT k=true from inT_iff.2 (.inr (.inl h2)))
  have f1:((k:Int)==1)=false:=by simpa using h1
  have f2:((k:Int)==2)=true:=by simpa using h2
  clear h1 h2
  go_enter Tryz.func103,Tryz.ntmps103
  go_wp2
  go_ret
  exact ⟨Xa2 Hn.out.symm,rfl⟩
 by_cases h3:k=3
 ·have Hn:=Qh (show inT k=true from inT_iff.2 (.inr (.inr h3)))
  have f1:((k:Int)==1)=false:=by simpa using h1
  have f2:((k:Int)==2)=false:=by simpa using h2
  have f3:((k:Int)==3)=true:=by simpa using h3
  clear h1 h2 h3
  go_enter Tryz.func103,Tryz.ntmps103
  go_wp2
  go_ret
  exact ⟨Xa2 Hn.out.symm,rfl⟩
 have Hn:=Qh (show inT k=false by
  cases h:inT k with
  |false=>rfl
  |true=>rcases inT_iff.1 h with h|h|h<;>contradiction)
 have f1:((k:Int)==1)=false:=by simpa using h1
 have f2:((k:Int)==2)=false:=by simpa using h2
 have f3:((k:Int)==3)=false:=by simpa using h3
 clear h1 h2 h3
 go_enter Tryz.func103,Tryz.ntmps103
 go_wp2
 go_ret
 exact ⟨Xa2 Hn.out.symm,rfl⟩
def SmlT (t:List Ent):Prop:= ∀x∈t,x.path.length≤4294967280∧x.target.length≤4294967280
def tHo:Ty Ho:=Ty.flat 2 (fun x=> [S x.p,.int .i64 x.u]) (fun _=>rfl) (fun _ u h=>by simp at h;rcases h with rfl|rfl<;>rfl)
theorem hoAt {I:IH} {v:Value} {l:List Ho} {w:World} (h:RdS tHo I v l) (hw:Ok I w) (i:Nat) (hi:i<l.length):∃x b off cap,l[i]=x∧v= .slice (some ⟨b,off,none⟩) l.length cap∧
 w.cell? ⟨b,off+i*2,none⟩=some (S x.p)∧w.cell? ⟨b,off+i*2+1,none⟩=some (.int .i64 x.u):=by
 obtain ⟨b,off,cap,cs,hv,hcs,hc⟩:=h.at_ hw hi
 have hcs':cs= [S l[i].p,.int .i64 l[i].u]:=hcs
 subst hcs'
 exact ⟨_,b,off,cap,rfl,hv,hc 0 _ rfl,hc 1 _ rfl⟩
theorem Xje:(Tryz.prog.info? 184).map (fun i=>(i.zero,i.size,i.bytes))=some (some (.agg #[.string ⟨#[]⟩,.int .i64 0]),2,24):=by kernel_rfl
theorem Xu3:ElemOk Tryz.prog 90 184 tHo 24:=ElemOk.of Tryz.underlying90 Xje rfl (by decide) rfl
abbrev hoV (x:Ho):Value:= .agg #[S x.p,.int .i64 x.u]
def PredH (g:Nat) (cb:Array Value) (l:List Ho) (p:Ho→Bool) (C:World→Prop):Prop:=
 ∀x∈l,∀W:World,C W→Calls Tryz.prog g (#[hoV x]++cb) W fun e w'=>e= .returned (.bool (p x))∧Below W.heap.size W w'
theorem Xos (f:Ho→Bool) {a:List Ho} {k:Nat} (hk:k<a.length) {x:Ho} (hx:a[k]=x):(a.take (k+1)).filter f=(a.take k).filter f++(if f x=true then [x] else []):=by
 rw [List.take_succ_eq_append_getElem hk,hx,List.filter_append]
 cases h:f x<;>simp [h]
theorem Xtb {α:Type} {T U:List α} {c:Bool} {p:α} (h:T=U++(if c=true then [p] else [])) (hc:c=true):T=U++ [p]:=by rw [h,if_pos hc]
theorem Xu1 {α:Type} {T U:List α} {c:Bool} {p:α} (h:T=U++(if c=true then [p] else [])) (hc:c=false):T=U:=by rw [h,hc,if_neg (by simp),List.append_nil]
theorem OwnS.castH {α:Type} {T:Ty α} {E:TypeId} {I:IH} {w:World} {B:Nat} {v:Value} {l l':List α} (h:OwnS T E I w B v l) (e:l=l'):OwnS T E I w B v l':=e▸h
set_option maxRecDepth 100000 in
set_option maxHeartbeats 1000000 in
theorem Xcf (I:IH) (v:Value) (l:List Ho) (hv:RdS tHo I v l) (hn:l.length≤100000) (g:Nat) (cb:Array Value) (p:Ho→Bool) (w:World) (hw:Ok I w) (eg:∀args w,(callFunc g args).run Tryz.prog w= .ok (.enter g args) w) (hp:PredH g cb l p (Below w.heap.size w)):
 Calls Tryz.prog 133 #[v,.func (.func g) #[] cb] w fun e w'=> ∃v',e= .returned v'∧OwnS tHo 184 I w' w.heap.size v' (l.filter p)∧Below w.heap.size w w':=by
 obtain ⟨ao,cap,rfl,hcap,hcm,_⟩:=id hv
 have Hv:=Qh hv;clear hv
 have Hp:=Qh hp;clear hp
 go_enter Tryz.func133,Tryz.ntmps133
 go_wp2_with fail
 go_loopw [5,10] (fun s5 s10 wr=> ∃k:Nat,k≤l.length∧s10= .int .i64 k∧OwnS tHo 184 I wr w.heap.size s5 ((l.take k).filter p)∧Below w.heap.size w wr) (fun _ i _=>l.length-(intOf i).toNat)
 case atStart=>exact ⟨0,Nat.zero_le _,rfl,OwnS.nil _ _ _ _ _,Qb _ _⟩
 case round=>
  obtain ⟨k,hk,rfl,hown,hb⟩:=hrel
  have Hown:=Qh hown
  clear hown
  have hwr:Ok I wr:=hw.below (Qn _) hb
  have hfl:((l.take k).filter p).length≤k:=Nat.le_trans (List.length_filter_le _ _) (by simp;omega)
  by_cases hlt:k<l.length
  ·obtain ⟨x,b,off,cap',hlx,hvv,c0,c1⟩:=hoAt Hv.out hwr k hlt
   cases hvv
   have Hst:=Qh (Xos p hlt hlx)
   have Hcall:=Qh (Hp.out x (by rw [←hlx];exact List.getElem_mem hlt) (wr.alloc (.cells #[S x.p,.int .i64 x.u] 184)) (hb.alloc hb.size _))
   clear hlx
   go_wp2_with fail
   refine Hcall.out.mono ?_
   rintro e w1 ⟨rfl,hb1⟩
   have x0:=Xaa hb1 (show (wr.alloc (.cells #[S x.p,.int .i64 x.u] 184)).cell? ⟨wr.heap.size,0,none⟩=some (S x.p) by simp)
   have x1:=Xaa hb1 (show (wr.alloc (.cells #[S x.p,.int .i64 x.u] 184)).cell? ⟨wr.heap.size,1,none⟩=some (.int .i64 x.u) by simp)
   have hb1':=(hb.alloc hb.size (.cells #[S x.p,.int .i64 x.u] 184)).trans (hb1.mono (by have:=hb.size;simp;omega))
   have Hown1:=Qh ((Hown.out.alloc (.cells #[S x.p,.int .i64 x.u] 184)).below hb1)
   have hs1:=hb1'.size
   clear hb1 Hcall c0 c1 Hown
   cases hpx:p x
   ·have Hn:=Qh (Xu1 Hst.out hpx)
    clear hpx
    go_wp2
    go_roundw
    case rel=>exact ⟨k+1,by omega,by go_num,Hown1.out.castH Hn.out.symm,hb1'⟩
    case measure=>simp [intOf];omega
   ·have Hn:=Qh (Xtb Hst.out hpx)
    clear hpx
    go_wp2_with (at_builtin;refine Xau (w0:=w1) Xu3 rfl _ _ rfl _ _ _ rfl Hown1.out x [S x.p,.int .i64 x.u] _ rfl rfl (by omega) (by omega) hs1 ?_)
    intro v9 w9 hown9 hg9
    have hb9:=Below.own hb1' hg9 Hown1.out (Qn _) hs1
    go_wp2
    go_roundw
    case rel=>exact ⟨k+1,by omega,by go_num,hown9.castH Hn.out.symm,hb9⟩
    case measure=>simp [intOf];omega
  ·have hall:l.take k=l:=List.take_of_length_le (by omega)
   rw [hall] at Hown
   clear hall hfl
   go_wp2
   go_ret
   exact ⟨_,rfl,Hown.out,hb⟩
set_option maxRecDepth 100000 in
set_option maxHeartbeats 1000000 in
theorem Xea (I:IH) (v:Value) (l:List Ho) (hv:RdS tHo I v l) (g:Nat) (cb:Array Value) (p:Ho→Bool) (w:World) (hw:Ok I w) (eg:∀args w,(callFunc g args).run Tryz.prog w= .ok (.enter g args) w) (hp:PredH g cb l p (Below w.heap.size w)):
 Calls Tryz.prog 203 #[v,.func (.func g) #[] cb] w fun e w'=>e= .returned (.int .i64 (idxL l p))∧Below w.heap.size w w':=by
 have hlen:=hv.len_le
 obtain ⟨ao,cap,rfl,hcap,hcm,_⟩:=id hv
 have Hv:=Qh hv;clear hv
 have Hp:=Qh hp;clear hp
 go_enter Tryz.func203,Tryz.ntmps203
 go_wp2_with fail
 go_loopw [8] (fun s8 wr=> ∃k:Nat,k≤l.length∧s8= .int .i64 k∧(l.take k).any p=false∧Below w.heap.size w wr) (fun i _=>l.length-(intOf i).toNat)
 case atStart=>exact ⟨0,Nat.zero_le _,rfl,rfl,Qb _ _⟩
 case round=>
  obtain ⟨k,hk,rfl,hr,hb⟩:=hrel
  have Hr:=Qh hr;clear hr
  by_cases hlt:k<l.length
  ·have hwr:Ok I wr:=hw.below (Qn _) hb
   obtain ⟨x,b,off,cap',hlx,hvv,c0,c1⟩:=hoAt Hv.out hwr k hlt
   cases hvv
   have Hlx:=Qh hlx
   have Hcall:=Qh (Hp.out x (by rw [←hlx];exact List.getElem_mem hlt) wr hb)
   clear hlx
   go_wp2_with fail
   refine Hcall.out.mono ?_
   rintro e w1 ⟨rfl,hb1⟩
   have hb1':=hb.trans (hb1.mono hb.size)
   clear hb1 Hcall c0 c1
   cases hpx:p x
   ·have Hn:=Qh (show (l.take (k+1)).any p=false by rw [List.take_succ_eq_append_getElem hlt,List.any_append,Hr.out,Hlx.out];simp [hpx])
    clear hpx
    go_wp2
    go_roundw
    case rel=>exact ⟨k+1,by omega,by go_num,Hn.out,hb1'⟩
    case measure=>simp [intOf];omega
   ·have Hn:=Qh (Xg7 (p:=p) hlt (by rw [Hlx.out];exact hpx) Hr.out)
    clear hpx
    go_wp2
    go_ret
    exact ⟨Xag Hn.out.symm,hb1'⟩
  ·have Hn:=Qh (show idxL l p= -1 from Xg8 (by have:=Hr.out;rwa [List.take_of_length_le (by omega)] at this))
   go_wp2
   go_ret
   exact ⟨Xag Hn.out.symm,hb⟩
set_option maxRecDepth 100000 in
set_option maxHeartbeats 400000 in
theorem Xcz (I:IH) (v:Value) (l:List Ho) (hv:RdS tHo I v l) (g:Nat) (cb:Array Value) (p:Ho→Bool) (w:World) (hw:Ok I w) (eg:∀args w,(callFunc g args).run Tryz.prog w= .ok (.enter g args) w) (hp:PredH g cb l p (Below w.heap.size w)):
 Calls Tryz.prog 268 #[v,.func (.func g) #[] cb] w fun e w'=>e= .returned (.bool (l.any p))∧Below w.heap.size w w':=by
 have Hi:=Qh (Xea I v l hv g cb p w hw eg hp)
 obtain ⟨ao,cap,rfl,hcap,hcm,_⟩:=id hv
 clear hv hp eg
 rcases Xcd l p with ⟨i,hi,e1,e2,_⟩|⟨e1,e2⟩
 ·have Ha:=Qh (show l.any p=true from List.any_eq_true.2 ⟨l[i],List.getElem_mem hi,e2⟩)
  have hd:decide ((0:Int)≤(i:Int))=true:=Qt (by omega)
  rw [e1] at Hi
  clear e1 e2
  go_enter Tryz.func268,Tryz.ntmps268
  go_wp2_with fail
  refine Hi.out.mono ?_
  rintro e w1 ⟨rfl,hb1⟩
  go_wp2
  go_ret
  exact ⟨Xa2 Ha.out.symm,hb1⟩
 ·have Ha:=Qh e2
  rw [e1] at Hi
  clear e1 e2
  go_enter Tryz.func268,Tryz.ntmps268
  go_wp2_with fail
  refine Hi.out.mono ?_
  rintro e w1 ⟨rfl,hb1⟩
  go_wp2
  go_ret
  exact ⟨Xa2 Ha.out.symm,hb1⟩
set_option maxRecDepth 100000 in
theorem Xoc (d:Int) (b:Nat) (l:List Ho) (w:World) (hc:w.cell? ⟨b,0,none⟩=some (.int .i64 d)):PredH 134 #[.pointer (some ⟨b,0,none⟩)] l (fun h=>decide (d≤h.u)) (Below w.heap.size w):=by
 intro x _ W hW
 have hcW:=Xab (.cells #[S x.p,.int .i64 x.u] 184) (Xaa hW hc)
 clear hc
 show Calls Tryz.prog _ #[hoV x,.pointer (some ⟨b,0,none⟩)] W _
 go_enter Tryz.func134,Tryz.ntmps134
 go_wp2
 go_ret
 exact ⟨rfl,(Qb _ _).alloc (Qn _) _⟩
set_option maxRecDepth 100000 in
theorem Xeq (I:IH) (v:Value) (l:List Ho) (hv:RdS tHo I v l) (hn:l.length≤100000) (d:Int) (w:World) (hw:Ok I w):
 Calls Tryz.prog 77 #[v,.int .i64 d] w fun e w'=> ∃v',e= .returned v'∧OwnS tHo 184 I w' w.heap.size v' (actP l d)∧Below w.heap.size w w':=by
 have Hp:=Qh (Xoc d w.heap.size l (w.alloc (.cells #[.int .i64 d] 3)) (by simp))
 have Hs:=Qh (Xcf I v l hv hn _ _ _ _ (hw.alloc (.cells #[.int .i64 d] 3)) (fun _ _=>by kernel_rfl) Hp.out)
 obtain ⟨ao,cap,rfl,hcap,hcm,_⟩:=id hv
 clear hv Hp
 go_enter Tryz.func77,Tryz.ntmps77
 go_wp2_with fail
 refine Hs.out.mono ?_
 rintro e w1 ⟨v1,rfl,hown,hb⟩
 go_wp2
 go_ret
 exact ⟨_,rfl,hown.lower (by simp),((Qb _ _).alloc (Qn _) _).trans (hb.mono (by simp))⟩
set_option maxRecDepth 100000 in
theorem Xsq (I:IH) (hI:Glob I) (p:Bytes) (hp:p.length≤4294967280) (b:Nat) (l:List Ho) (hl:∀h∈l,h.p.length≤4294967280) (w:World) (hw:Ok I w) (hc:w.cell? ⟨b,0,none⟩=some (S p)):PredH 294 #[.pointer (some ⟨b,0,none⟩)] l (fun h=>under p h.p) (Below w.heap.size w):=by
 intro x hx W hW
 have Hu:=Qh (Xja I hI p x.p hp (hl x hx) (W.alloc (.cells #[S x.p,.int .i64 x.u] 184)) ((hw.below (Qn _) hW).alloc _))
 have hcW:=Xab (.cells #[S x.p,.int .i64 x.u] 184) (Xaa hW hc)
 clear hc
 show Calls Tryz.prog _ #[hoV x,.pointer (some ⟨b,0,none⟩)] W _
 go_enter Tryz.func294,Tryz.ntmps294
 go_wp2_with fail
 refine Hu.out.mono ?_
 rintro e w1 ⟨rfl,hb1⟩
 go_wp2
 go_ret
 exact ⟨rfl,((Qb _ _).alloc (Qn _) _).trans (hb1.mono (by simp))⟩
theorem HOk.short {l:List Ho} (h:HOk l):∀x∈l,x.p.length≤4294967280:=fun x hx=>by have:=(Xcb (h.path x hx)).1;omega
set_option maxRecDepth 100000 in
set_option maxHeartbeats 400000 in
theorem Xuq (I:IH) (hI:Glob I) (v:Value) (l:List Ho) (hv:RdS tHo I v l) (hk:HOk l) (hn:l.length≤100000) (p:Bytes) (hp:p.length≤4294967280) (d:Int) (w:World) (hw:Ok I w):
 Calls Tryz.prog 266 #[v,S p,.int .i64 d] w fun e w'=>e= .returned (.bool (heldP l p d))∧Below w.heap.size w w':=by
 have Ha:=Qh (Xeq I v l hv hn d (w.alloc (.cells #[S p] 9)) (hw.alloc _))
 have Hk:=Qh (hk.act d)
 have Hfr:=Qh (fun b (hb:(w.alloc (.cells #[S p] 9)).heap.size≤b)=>(hw.alloc (.cells #[S p] 9)).fresh (b:=b) hb)
 have HI:=Qh hI
 obtain ⟨ao,cap,rfl,hcap,hcm,_⟩:=id hv
 clear hv hk hI
 go_enter Tryz.func266,Tryz.ntmps266
 go_wp2_with fail
 refine Ha.out.mono ?_
 rintro e w1 ⟨v1,rfl,hown,hb⟩
 have hok1:Ok I w1:=(hw.alloc _).below (Qn _) hb
 obtain ⟨I1,hI1,hI2,hI3,_⟩:=hown.freeze hok1 Hfr.out
 have hc1:w1.cell? ⟨w.heap.size,0,none⟩=some (S p):=Xaa hb (by simp)
 have Hp:=Qh (Xsq I1 (HI.out.mono (hI1.keep (hw.alloc (.cells #[S p] 9)) (Qn _))) p hp w.heap.size (actP l d) Hk.out.short w1 hI2 hc1)
 have Hc:=Qh (Xcz I1 _ _ hI3 _ _ _ w1 hI2 (fun _ _=>by kernel_rfl) Hp.out)
 have hb':=((Qb w.heap.size w).alloc (Qn _) (.cells #[S p] 9)).trans (hb.mono (by simp))
 obtain ⟨a1,c1,rfl,_,_,_⟩:=id hI3
 clear hb hown hI3 hI2 hI1 hc1 Ha Hp
 go_wp2_with fail
 refine Hc.out.mono ?_
 rintro e w2 ⟨rfl,hb2⟩
 go_wp2
 go_ret
 exact ⟨rfl,hb'.trans (hb2.mono hb'.size)⟩
theorem Xnp {s:Bytes} (h:dateOk s=true):Lib.atoiAll s= .ok (digits s)∧s≠ []∧s.all digC=true∧((s.getD 0 0).toNat=48→s= [48]):=by
 have h':=h
 obtain ⟨n,h1,h2,h3,h4⟩:=(Xnq s).1 h
 obtain ⟨u,rfl⟩:=Int.eq_ofNat_of_zero_le h2
 rw [Lib.itoa,if_neg (by omega),Int.toNat_natCast] at h4
 obtain ⟨f1,f2,f3,f4,f5⟩:=Xli u
 rw [h4] at f1 f2 f3 f4 f5
 have hdg:digits s=u:=by rw [Xfk f1,f3]
 refine ⟨by rw [hdg];exact h1,f2,f1,fun hc=> ?_⟩
 cases s with
 |nil=>exact absurd rfl f2
 |cons c r=>
  have hc':c=48:=by
   apply UInt8.toNat_inj.1
   simpa using hc
  subst hc'
  have hu:u=0:=by
   by_cases k:1≤u
   ·exact absurd rfl (f5 k)
   ·omega
  subst hu
  rw [←h4];first|(rw [Lib.decDigits];rfl)|simp [Lib.decDigits]|decide
def digSet:Bytes:= [48,49,50,51,52,53,54,55,56,57]
set_option maxRecDepth 100000 in
theorem Xoy:∀c:UInt8,digC c=true→digSet.contains c=true:=by
 intro c h
 have hb:=Xfl h
 have key:∀n:Fin 256,48≤n.1→n.1≤57→digSet.contains (UInt8.ofNat n.1)=true:=by decide
 have:=key ⟨c.toNat,c.toNat_lt⟩ hb.1 hb.2
 simpa using this
theorem Xl4 {s:Bytes} (h:s.all digC=true):Lib.trimS s digSet= []:=by
 rw [Xjz,List.all_eq_true]
 intro c hc
 exact Xoy c (List.all_eq_true.1 h c hc)
theorem Xqm (s:Bytes) (hs:s.length≤9223372036854775807) (w:World):
 Calls Tryz.prog 162 #[S s,S digSet] w fun e w'=>e= .returned (S (Lib.trimS s digSet))∧Below w.heap.size w w':=by
 have h:=Tryz.strings_Trim ⟨s.toArray⟩ ⟨digSet.toArray⟩ w (by rw [ByteArray.size_mk',List.size_toArray];exact hs) (by decide) (ascii_of_all (by decide))
 exact h
set_option maxRecDepth 100000 in
set_option maxHeartbeats 1000000 in
theorem Xpz (s:Bytes) (hs:s.length≤4294967280) (hd:dateOk s=true) (w:World):
 Calls Tryz.prog 202 #[S s] w fun e w'=>e= .returned (.tuple #[.int .i64 (digits s),.bool true])∧Below w.heap.size w w':=by
 obtain ⟨ha,hne,hall,hz⟩:=Xnp hd
 have hbd:=(Xlj hd).2
 have hlen:=List.length_pos_iff.2 hne
 obtain ⟨p1,p2,p3,p4⟩:=Xde hne
 have Ht:=Qh (Xqm s (by omega) w)
 rw [Xl4 hall] at Ht
 have Ha:=Qh (fun w=>Xg5 s hs _ ha w)
 have hx0:=run_at (P:=Tryz.prog) Tryz.underlying9 s 0 0 rfl hlen
 have q1:decide (digits s≤1000000000)=true:=Qt hbd
 generalize digits s=n at Ha hbd q1 ⊢
 have HD:=Qh (show digSet= [48,49,50,51,52,53,54,55,56,57] from rfl)
 rw [HD.out] at Ht
 clear hd ha hall hne
 by_cases hc:(s.getD 0 0).toNat=48
 ·have hs0:=hz hc
  have k1:(((s.getD 0 0).toNat:Int)==48)=true:=by rw [hc];rfl
  have k2:(s== [48])=true:=by rw [hs0];rfl
  have Hs:=Qh hs0
  clear hs0 hc hz
  generalize (s.getD 0 0).toNat=c at hx0 k1
  go_enter Tryz.func202,Tryz.ntmps202
  go_wp2_with fail
  refine Ht.out.mono ?_
  rintro e w1 ⟨rfl,hb1⟩
  go_wp2_with fail
  refine (Ha.out _).mono ?_
  rintro e w2 ⟨rfl,hb2⟩
  go_wp2
  go_ret2
  exact ⟨rfl,hb1.trans (hb2.mono hb1.size)⟩
 ·have k1:(((s.getD 0 0).toNat:Int)==48)=false:=by
   have:((s.getD 0 0).toNat:Int)≠48:=by omega
   simpa using this
  clear hc hz
  generalize (s.getD 0 0).toNat=c at hx0 k1
  go_enter Tryz.func202,Tryz.ntmps202
  go_wp2_with fail
  refine Ht.out.mono ?_
  rintro e w1 ⟨rfl,hb1⟩
  go_wp2_with fail
  refine (Ha.out _).mono ?_
  rintro e w2 ⟨rfl,hb2⟩
  go_wp2
  go_ret2
  exact ⟨rfl,hb1.trans (hb2.mono hb1.size)⟩
set_option maxRecDepth 100000 in
theorem Xl9 (I:IH) (hI:Glob I) (p:Bytes) (hp:p.length≤4294967280) (b:Nat) (l:List Ho) (hl:∀h∈l,h.p.length≤4294967280) (w:World) (hw:Ok I w) (hc:w.cell? ⟨b,1,none⟩=some (S p)):PredH 267 #[.pointer (some ⟨b,0,none⟩)] l (fun h=>under h.p p) (Below w.heap.size w):=by
 intro x hx W hW
 have Hu:=Qh (Xja I hI x.p p (hl x hx) hp (W.alloc (.cells #[S x.p,.int .i64 x.u] 184)) ((hw.below (Qn _) hW).alloc _))
 have hcW:=Xab (.cells #[S x.p,.int .i64 x.u] 184) (Xaa hW hc)
 clear hc
 show Calls Tryz.prog _ #[hoV x,.pointer (some ⟨b,0,none⟩)] W _
 go_enter Tryz.func267,Tryz.ntmps267
 go_wp2_with fail
 refine Hu.out.mono ?_
 rintro e w1 ⟨rfl,hb1⟩
 go_wp2
 go_ret
 exact ⟨rfl,((Qb _ _).alloc (Qn _) _).trans (hb1.mono (by simp))⟩
set_option maxRecDepth 100000 in
set_option maxHeartbeats 2000000 in
theorem Xob (I:IH) (hI:Glob I) (v:Value) (l:List Ho) (hv:RdS tHo I v l) (hk:HOk l) (hn:l.length≤100000) (e:Ent) (va vx:Value) (hva:RdS tAt I va e.attrs) (hvx:RdS tXt I vx e.exts) (hp:e.path.length≤4294967280) (d:Int) (w:World) (hw:Ok I w):
 Calls Tryz.prog 207 #[v,entV e va vx,.int .i64 d] w fun r w'=>r= .returned (.int .i64 (alwP l e.kind e.path d))∧Below w.heap.size w w':=by
 have Hh:=Qh (fun w hw=>Xuq I hI v l hv hk hn e.path hp d w hw)
 have Ha:=Qh (fun w hw=>Xeq I v l hv hn d w hw)
 have HI:=Qh hI
 have Hk:=Qh (hk.act d)
 obtain ⟨ao,cap,rfl,hcap,hcm,_⟩:=id hv
 obtain ⟨aa,ca,rfl,_,_,_⟩:=id hva
 obtain ⟨ax,cx,rfl,_,_,_⟩:=id hvx
 clear hv hva hvx hI hk
 by_cases h1:e.kind=1
 ·have k1:((e.kind:Int)==1)=true:=by simpa using h1
  have Hn:=Qh (show alwP l e.kind e.path d=if heldP l e.path d then 15 else 0 by rw [alwP,if_pos (.inl h1)])
  generalize heldP l e.path d=b at Hh Hn
  clear h1
  go_enter Tryz.func207,Tryz.ntmps207
  go_wp2_with fail
  refine (Hh.out _ (hw.alloc _)).mono ?_
  rintro e1 w1 ⟨rfl,hb1⟩
  have hb1':=((Qb w.heap.size w).alloc (Qn _) (.cells #[.int .i64 e.kind,S e.path,.slice aa e.attrs.length ca,S e.target,.int .i64 e.size,S e.digest,.slice ax e.exts.length cx] 35)).trans (hb1.mono (by simp))
  cases b
  ·go_wp2
   go_ret
   exact ⟨Xag Hn.out.symm,hb1'⟩
  ·go_wp2
   go_ret
   exact ⟨Xag Hn.out.symm,hb1'⟩
 have k1:((e.kind:Int)==1)=false:=by simpa using h1
 by_cases h2:e.kind=2
 ·have k2:((e.kind:Int)==2)=true:=by simpa using h2
  have Hn:=Qh (show alwP l e.kind e.path d=if heldP l e.path d then 15 else 0 by rw [alwP,if_pos (.inr (.inl h2))])
  generalize heldP l e.path d=b at Hh Hn
  clear h1 h2
  go_enter Tryz.func207,Tryz.ntmps207
  go_wp2_with fail
  refine (Hh.out _ (hw.alloc _)).mono ?_
  rintro e1 w1 ⟨rfl,hb1⟩
  have hb1':=((Qb w.heap.size w).alloc (Qn _) (.cells #[.int .i64 e.kind,S e.path,.slice aa e.attrs.length ca,S e.target,.int .i64 e.size,S e.digest,.slice ax e.exts.length cx] 35)).trans (hb1.mono (by simp))
  cases b
  ·go_wp2
   go_ret
   exact ⟨Xag Hn.out.symm,hb1'⟩
  ·go_wp2
   go_ret
   exact ⟨Xag Hn.out.symm,hb1'⟩
 have k2:((e.kind:Int)==2)=false:=by simpa using h2
 by_cases h3:e.kind=3
 ·have k3:((e.kind:Int)==3)=true:=by simpa using h3
  have Hn:=Qh (show alwP l e.kind e.path d=if heldP l e.path d then 15 else 0 by rw [alwP,if_pos (.inr (.inr h3))])
  generalize heldP l e.path d=b at Hh Hn
  clear h1 h2 h3
  go_enter Tryz.func207,Tryz.ntmps207
  go_wp2_with fail
  refine (Hh.out _ (hw.alloc _)).mono ?_
  rintro e1 w1 ⟨rfl,hb1⟩
  have hb1':=((Qb w.heap.size w).alloc (Qn _) (.cells #[.int .i64 e.kind,S e.path,.slice aa e.attrs.length ca,S e.target,.int .i64 e.size,S e.digest,.slice ax e.exts.length cx] 35)).trans (hb1.mono (by simp))
  cases b
  ·go_wp2
   go_ret
   exact ⟨Xag Hn.out.symm,hb1'⟩
  ·go_wp2
   go_ret
   exact ⟨Xag Hn.out.symm,hb1'⟩
 have k3:((e.kind:Int)==3)=false:=by simpa using h3
 have hno:¬(e.kind=1∨e.kind=2∨e.kind=3):=fun q=>by omega
 by_cases h4:e.kind=4
 case neg=>
  have k4:((e.kind:Int)==4)=false:=by simpa using h4
  have Hn:=Qh (show alwP l e.kind e.path d=0 by rw [alwP,if_neg hno,if_neg h4])
  clear h1 h2 h3 h4 hno
  go_enter Tryz.func207,Tryz.ntmps207
  go_wp2
  go_ret
  exact ⟨Xag Hn.out.symm,(Qb w.heap.size w).alloc (Qn _) _⟩
 have k4:((e.kind:Int)==4)=true:=by simpa using h4
 have Hn:=Qh (show alwP l e.kind e.path d=if heldP l e.path d || belowP l e.path d then 15 else 0 by rw [alwP,if_neg hno,if_pos h4])
 clear h1 h2 h3 h4 hno
 have Hbe:=Qh (show belowP l e.path d=(actP l d).any (fun h=>under h.p e.path) from rfl)
 generalize heldP l e.path d=b at Hh Hn
 generalize belowP l e.path d=c at Hn Hbe
 go_enter Tryz.func207,Tryz.ntmps207
 go_wp2_with fail
 refine (Hh.out _ (hw.alloc _)).mono ?_
 rintro e1 w1 ⟨rfl,hb1⟩
 have HB1:=Qh (entB (e:=e) rfl hb1)
 have hok1:Ok I w1:=(hw.alloc _).below (Qn _) hb1
 have hb1':=((Qb w.heap.size w).alloc (Qn _) (.cells #[.int .i64 e.kind,S e.path,.slice aa e.attrs.length ca,S e.target,.int .i64 e.size,S e.digest,.slice ax e.exts.length cx] 35)).trans (hb1.mono (by simp))
 clear hb1
 cases b
 case true=>
  go_wp2
  go_ret
  exact ⟨Xag Hn.out.symm,hb1'⟩
 have Hfr:=Qh (fun b (hb:w1.heap.size≤b)=>hok1.fresh (b:=b) hb)
 go_wp2_with fail
 refine (Ha.out _ hok1).mono ?_
 rintro e2 w2 ⟨v2,rfl,hown,hb2⟩
 have hok2:Ok I w2:=hok1.below (Qn _) hb2
 obtain ⟨I2,hI1,hI2,hI3,_⟩:=hown.freeze hok2 Hfr.out
 have Hp:=Qh (Xl9 I2 (HI.out.mono (hI1.keep hok1 (Qn _))) e.path hp w.heap.size (actP l d) Hk.out.short w2 hI2 (HB1.out.thru hb2).c1)
 have Hc:=Qh (Xcz I2 _ _ hI3 _ _ _ w2 hI2 (fun _ _=>by kernel_rfl) Hp.out)
 rw [←Hbe.out] at Hc
 have hb2':=hb1'.trans (hb2.mono hb1'.size)
 obtain ⟨a1,c1,rfl,_,_,_⟩:=id hI3
 clear hb2 hown hI3 hI2 hI1 Ha Hp hb1'
 go_wp2_with fail
 refine Hc.out.mono ?_
 rintro e3 w3 ⟨rfl,hb3⟩
 have hb3':=hb2'.trans (hb3.mono hb2'.size)
 cases c
 ·go_wp2
  go_ret
  exact ⟨Xag Hn.out.symm,hb3'⟩
 ·go_wp2
  go_ret
  exact ⟨Xag Hn.out.symm,hb3'⟩
set_option maxRecDepth 100000 in
set_option maxHeartbeats 2000000 in
theorem Xjf (I:IH) (B:Nat) (v:Value) (l:List _) (x:_) (vb:Nat) (news:List Value) (w:World) (hv:OwnS tHo 184 I w B v l) (hx:tHo.rd I news x)
 (hvs:∀j u,news[j]? =some u→w.cell? ⟨vb,j,none⟩=some u) (hbig:(l.length+1)*24≤140737488355328) (hB:B≤w.heap.size):
 Calls Tryz.prog 205 #[v,.int .i64 l.length,.slice (some ⟨vb,0,none⟩) 1 1] w fun e w'=> ∃v',e= .returned v'∧OwnS tHo 184 I w' B v' (l++ [x])∧w.grownBy w' v.ownBlock:=by
 obtain ⟨i0,hi,hz0,hz1,hz2⟩:=info_parts Xje
 obtain ⟨xs,hown,hL⟩:=hv
 have HL:=Qh hL
 have Hx:=Qh hx
 have Hvs:=Qh hvs
 have hml:maxLen=9223372036854775807:=rfl
 have hlen:l.length≤4611686018427387904:=by omega
 clear hL hx hvs
 have hcase:v= .slice none 0 0∧l.length=0∨ ∃g cap,v= .slice (some ⟨g,0,none⟩) l.length cap∧l.length≤cap∧cap≤9223372036854775807:=by
  rcases hown.2 with h|⟨g,cap,cur,h1,_,_,h2,h3,_⟩
  ·exact .inl h
  ·exact .inr ⟨g,cap,h1,h2,by rw [hml] at h3;exact h3⟩
 have Hml:=Qh hml
 clear hml
 rcases hcase with ⟨rfl,h0⟩|⟨g,cap,rfl,hcap,hcm⟩
 ·have:l= []:=List.eq_nil_of_length_eq_zero h0
  subst this
  go_enter Tryz.func205,Tryz.ntmps205
  go_wp2_with (at_builtin;refine wpList_append_own _ rfl _ _ 90 rfl B 184 i0 _ 2 24 Tryz.underlying90 hi hz0 hz1 hz2 rfl (by decide) _ _ _ rfl hown ⟨vb,0,none⟩ 1 1 news rfl ?qc1 ?qc2 ?qc3 ?qc4 ?qc5 ?qc6 ?_)
  case qc1=>exact tHo.len Hx.out
  case qc2=>intro j u hj;rw [Addr.add_lit,Nat.zero_add];exact Hvs.out j u hj
  case qc3=>exact tHo.one Hx.out
  case qc4=>rw [Hml.out];simp
  case qc5=>simp
  case qc6=>exact hB
  intro v' w1 hown1 hgrow _
  go_wp2
  go_ret
  exact ⟨v',rfl,⟨_,hown1,LiesL.append HL.out (LiesL.one Hx.out)⟩,hgrow⟩
 ·go_enter Tryz.func205,Tryz.ntmps205
  go_wp2_with (at_builtin;refine wpList_append_own _ rfl _ _ 90 rfl B 184 i0 _ 2 24 Tryz.underlying90 hi hz0 hz1 hz2 rfl (by decide) _ _ _ rfl hown ⟨vb,0,none⟩ 1 1 news rfl (tHo.len Hx.out) (fun j u hj=>by rw [Addr.add_lit,Nat.zero_add];exact Hvs.out j u hj) (tHo.one Hx.out) (by rw [Hml.out];omega) hbig hB ?_)
  all_goals
   intro v' w1 hown1 hgrow _
   go_wp2
   go_ret
   exact ⟨v',rfl,⟨_,by rw [List.length_append];exact hown1,LiesL.append HL.out (LiesL.one Hx.out)⟩,hgrow⟩
set_option maxRecDepth 100000 in
set_option maxHeartbeats 4000000 in
theorem Xg9 (I:IH) (B g cap i:Nat) (l:List _) (x:_) (vb:Nat) (tb:TypeId) (news:List Value) (w:World) (hv:OwnS tHo 184 I w B (.slice (some ⟨g,0,none⟩) l.length cap) l) (hx:tHo.rd I news x)
 (hvb:w.heap[vb]? =some (.cells news.toArray tb (0,0))) (hne:vb≠g) (hi:i<l.length) (hroom:l.length+1≤cap) (hcm:cap≤9223372036854775807):
 Calls Tryz.prog 205 #[.slice (some ⟨g,0,none⟩) l.length cap,.int .i64 i,.slice (some ⟨vb,0,none⟩) 1 1] w fun e w'=> ∃v',e= .returned v'∧OwnS tHo 184 I w' B v' (l.take i++x::l.drop i)∧w.grownBy w' (some g):=by
 obtain ⟨i0,hif,hz0,hz1,hz2⟩:=info_parts Xje
 obtain ⟨xs,⟨hxl,hown⟩,hL⟩:=hv
 rcases hown with ⟨h0,_⟩|⟨g',cap',cur,h1,hBg,hg,_,hcm',hcs,htk⟩
 ·cases h0
 injection h1 with h1a h1b h1c
 injection h1a with h1a
 injection h1a with h1a
 subst h1a h1c
 have hsz:(Tryz.prog.info? 184).map (·.size)=some 2:=by rw [hif];simp [hz1]
 have hnl:news.length=2:=tHo.len hx
 have hn1:=tHo.one hx
 have hxl':xs.length=l.length*2:=hxl
 have hcs':cur.size=cap*2:=hcs
 have htk':cur.toList.take xs.length=xs:=by rw [hxl];exact htk
 have hov:∀lb cb,(callFunc 264 #[.slice (some ⟨vb,0,none⟩) 1 1,.slice (some ⟨g,(i+1)*2,none⟩) lb cb]).run Tryz.prog w= .ok (.value (.bool false)) w:=fun lb cb=>by
  rw [run_callFunc_extern Tryz.func264 (by kernel_rfl) (by kernel_rfl) (by kernel_rfl) (e:=Extern.SlicesOverlaps.overlaps #[90,90] #[4]) (by kernel_rfl),
   Lib.run_overlaps_apart w 90 4 184 Tryz.underlying90 2 (fun w=>by simp [go_sem]) ⟨vb,0,none⟩ ⟨g,(i+1)*2,none⟩ 1 1 lb cb hne tb 184 2 cur.size (by simp [World.shape?,hvb,hnl]) (by simp [World.shape?,hg]) (by omega) (by simp [World.frozen?,hvb]) (by simp [World.frozen?,hvb])]
  rfl
 obtain ⟨cur1,hcur1⟩:∃c,c=over cur (i*2+2) (xs.drop (i*2)):=⟨_,rfl⟩
 have hs1:cur1.size=cur.size:=by rw [hcur1];exact Xa8 _ _ _ (by rw [List.length_drop];omega)
 obtain ⟨cur2,hcur2⟩:∃c,c=over cur1 (i*2) news:=⟨_,rfl⟩
 have hs2:cur2.size=cur1.size:=by rw [hcur2];exact Xa8 _ _ _ (by omega)
 have hfin:cur2.toList.take ((l.length+1)*2)=xs.take (i*2)++news++xs.drop (i*2):=by
  have:=insert_row cur xs news (i*2) 2 (by omega) htk' hnl (by omega)
  rw [←hcur1,←hcur2] at this
  rw [show (l.length+1)*2=xs.length+2 by omega]
  exact this
 have hcp1:∀ty dc sc,(Builtin.copy_ #[90,90] ty #[.slice (some ⟨g,(i+1)*2,none⟩) (l.length-i) dc,.slice (some ⟨g,i*2,none⟩) (l.length+1-i) sc]).run Tryz.prog w.drew= .ok (goInt ((l.length-i:Nat):Int)) (w.drew.setRow g cur1):=fun ty dc sc=>by
  have h:=Xa5 (P:=Tryz.prog) w.drew 90 90 ty 184 2 g ((i+1)*2) (l.length-i) dc ⟨g,i*2,none⟩ (l.length+1-i) sc cur 184 (xs.drop (i*2)) Tryz.underlying90 hsz hg (by rw [List.length_drop];simp only [Nat.min_def];split<;>omega)
   (fun j u hj=>by
     rw [Addr.add_lit]
     rw [List.getElem?_drop,←htk',List.getElem?_take] at hj
     split at hj
     ·rw [World.cell?_drew,cell_of_row w g _ cur _ _ hg,←Array.getElem?_toList];exact hj
     ·cases hj) (by rw [List.length_drop];omega) (fun u hu=>hL.oneCell u (List.mem_of_mem_drop hu))
  rw [h,show Nat.min (l.length+1-i) (l.length-i)=l.length-i by simp only [Nat.min_def];split<;>omega,hcur1]
  rw [show (i+1)*2=i*2+2 by omega]
  rfl
 have hg1:(w.drew.setRow g cur1).heap[g]? =some (.cells cur1 184 (0,0)):=setRow_heap w.drew g cur cur1 _ _ hg
 have hcp2:∀ty dc,(Builtin.copy_ #[90,90] ty #[.slice (some ⟨g,i*2,none⟩) (l.length+1-i) dc,.slice (some ⟨vb,0,none⟩) 1 1]).run Tryz.prog (w.drew.setRow g cur1)= .ok (goInt 1) ((w.drew.setRow g cur1).setRow g cur2):=fun ty dc=>by
  have h:=Xa5 (P:=Tryz.prog) (w.drew.setRow g cur1) 90 90 ty 184 2 g (i*2) (l.length+1-i) dc ⟨vb,0,none⟩ 1 1 cur1 184 news Tryz.underlying90 hsz hg1 (by rw [hnl];simp only [Nat.min_def];split<;>omega)
   (fun j u hj=>by
     rw [Addr.add_lit,Nat.zero_add]
     have:(w.drew.setRow g cur1).heap[vb]? =some (.cells news.toArray tb (0,0)):=by rw [setRow_other _ _ _ _ hne];exact hvb
     rw [cell_of_row _ vb j _ _ _ this];simpa using hj) (by omega) hn1
  rw [h,show Nat.min 1 (l.length+1-i)=1 by simp only [Nat.min_def];split<;>omega,hcur2]
  rfl
 have Hlen:=Qh (show (xs.take (i*2)++news++xs.drop (i*2)).length=(l.length+1)*2 by simp;omega)
 have Hsz:=Qh (show cur2.size=cap*2 by omega)
 have Hfin:=Qh hfin
 have HL:=Qh hL
 have Hx:=Qh hx
 have Hg1:=Qh hg1
 have hb1:¬(cap=i+1):=by omega
 have hb2:¬(cap=i):=by omega
 clear hfin hL hx hg1 hcur1 hcur2 hxl hxl' hcs hcs' htk htk' hnl hn1 hvb hcm' hg
 have hw1:IntKind.i64.wrap ((i:Int)+1)=(i:Int)+1:=IntWalk.i64_in _ (by omega)
 have hw2:0≤(i:Int)+1:=by omega
 have hw3:((i:Int)+1).toNat=i+1:=by omega
 have hw4:i≤l.length:=by omega
 have hw5:(i:Int)≤(l.length:Int)+1:=by omega
 go_enter Tryz.func205,Tryz.ntmps205
 go_wp2_with (simp only [hov])
 go_region_law (refine step_copy_runI rfl _ _ 90 90 rfl _ _ (by simp [Act.eval,Act.put]) (by simp [Act.eval,Act.put]) (hcp1 _ _ _) ?_)
 go_wp2_with (at_builtin;refine wpList_copy_runI _ rfl _ _ 90 90 rfl _ _ rfl rfl (hcp2 _ _) ?_)
 go_ret
 have hln:(l.take i++x::l.drop i).length=l.length+1:=by simp;omega
 refine ⟨_,rfl,?_,?_⟩
 ·unfold OwnS
  rw [hln]
  refine ⟨xs.take (i*2)++news++xs.drop (i*2),⟨Hlen.out,.inr ⟨g,cap,cur2,rfl,hBg,setRow_heap _ g cur1 cur2 _ _ Hg1.out,by omega,by unfold maxLen;omega,Hsz.out,Hfin.out⟩⟩,?_⟩
  have:=((HL.out.take i).append (LiesL.one Hx.out)).append (HL.out.drop i)
  rwa [show l.take i++ [x]++l.drop i=l.take i++x::l.drop i by simp] at this
 ·have h0:w.grownBy w.drew (some g):=⟨rfl,rfl,rfl,Qn _,fun _ _ _=>rfl⟩
  exact Xbi (Xbi h0 Xas) Xas
set_option maxRecDepth 100000 in
set_option maxHeartbeats 4000000 in
theorem Xh4 (I:IH) (B g cap i:Nat) (l:List _) (x:_) (vb:Nat) (tb:TypeId) (news:List Value) (w:World) (hv:OwnS tHo 184 I w B (.slice (some ⟨g,0,none⟩) l.length cap) l) (hx:tHo.rd I news x)
 (hvb:w.heap[vb]? =some (.cells news.toArray tb (0,0))) (hi:i<l.length) (hroom:cap<l.length+1) (hbig:(l.length+1)*24≤140737488355328) (hB:B≤w.heap.size):
 Calls Tryz.prog 205 #[.slice (some ⟨g,0,none⟩) l.length cap,.int .i64 i,.slice (some ⟨vb,0,none⟩) 1 1] w fun e w'=> ∃v',e= .returned v'∧OwnS tHo 184 I w' B v' (l.take i++x::l.drop i)∧w.grownBy w' (some g):=by
 obtain ⟨i0,hif,hz0,hz1,hz2⟩:=info_parts Xje
 obtain ⟨xs,⟨hxl,hown⟩,hL⟩:=hv
 rcases hown with ⟨h0,_⟩|⟨g',cap',cur,h1,hBg,hg,hnc,hcm',hcs,htk⟩
 ·cases h0
 injection h1 with h1a h1b h1c
 injection h1a with h1a
 injection h1a with h1a
 subst h1a h1c
 have hsz:(Tryz.prog.info? 184).map (·.size)=some 2:=by rw [hif];simp [hz1]
 have hnl:news.length=2:=tHo.len hx
 have hn1:=tHo.one hx
 have hxl':xs.length=l.length*2:=hxl
 have hcs':cur.size=cap*2:=hcs
 have htk':cur.toList.take xs.length=xs:=by rw [hxl];exact htk
 have hgw:g<w.heap.size:=(Array.getElem?_eq_some_iff.1 hg).1
 have hvw:vb<w.heap.size:=(Array.getElem?_eq_some_iff.1 hvb).1
 have hxcell:∀(j:Nat) u,xs[j]? =some u→w.cell? ⟨g,j,none⟩=some u:=fun j u hj=>by
  rw [←htk',List.getElem?_take] at hj
  split at hj
  ·rw [cell_of_row w g _ cur _ _ hg,←Array.getElem?_toList];exact hj
  ·cases hj
 have hold:(Builtin.firstCells i0.size i (.slice (some ⟨g,0,none⟩) i cap)).run Tryz.prog w.drew= .ok (xs.take (i*2)).toArray w.drew:=
  run_firstCells_some w.drew i0.size i ⟨g,0,none⟩ i cap (xs.take (i*2)) (by rw [hz1,List.length_take];omega) (fun j u hj=>by
   rw [Addr.add_lit,Nat.zero_add]
   rw [List.getElem?_take] at hj
   split at hj
   ·exact hxcell j u hj
   ·cases hj)
 obtain ⟨G,hG⟩:∃G,G=grownCap w (l.length+1) cap 184:=⟨_,rfl⟩
 have hGn:l.length+1≤G:=by rw [hG];exact grownCap_ge w _ _ _
 have hG63:G≤9223372036854775807:=by
  have:=grownCap_le_maxLen w (l.length+1) cap 184 (by unfold maxLen;omega)
  rw [←hG] at this
  unfold maxLen at this
  omega
 obtain ⟨z,hz⟩:∃z,i0.zero=some z:=⟨_,hz0⟩
 have hzs:z.cells.size=2:=by rw [hz] at hz0;cases hz0;rfl
 obtain ⟨ROW,hROW⟩:∃ROW:Array Value,ROW=(xs.take (i*2)).toArray++Builtin.zeroCells z.cells (l.length+1-i)++Builtin.zeroCells z.cells (G-(l.length+1)):=⟨_,rfl⟩
 have hRs:ROW.size=G*2:=by
  rw [hROW,Array.size_append,Array.size_append,size_zeroCells,size_zeroCells,hzs]
  simp
  omega
 have hRt:ROW.toList.take (i*2)=xs.take (i*2):=by
  rw [hROW,Array.toList_append,Array.toList_append,List.append_assoc,List.take_append_of_le_length (by simp;omega),List.take_of_length_le (by simp;omega)]
 have hrz:∀ty,(Builtin.append_ #[90,3] ty #[.slice (some ⟨g,0,none⟩) i cap,.int .i64 ((l.length:Int)+1-(i:Int))]).run Tryz.prog w=
  .ok (.slice (some ⟨w.heap.size,0,none⟩) (l.length+1) G) (w.drew.alloc (.cells ROW 184)):=fun ty=>by
  have h:=Lib.run_append_grow_zeros w 90 3 ty 184 i0 z .i64 .i64 Tryz.underlying90 Tryz.underlying3 hif hz (some ⟨g,0,none⟩) i cap (xs.take (i*2)) hold (l.length+1-i) (by omega) (by rw [hz1];omega) (by omega) (by omega) (by rw [hz2];omega) (by rw [hz2,show i+(l.length+1-i)=l.length+1 by omega];exact growslice_fits hroom hbig)
  rw [show i+(l.length+1-i)=l.length+1 by omega,←hG,←hROW] at h
  rw [show (l.length:Int)+1-(i:Int)=((l.length+1-i:Nat):Int) by omega]
  exact h
 obtain ⟨row2,hrow2⟩:∃c,c=over ROW (i*2) news:=⟨_,rfl⟩
 have hs2:row2.size=ROW.size:=by rw [hrow2];exact Xa8 _ _ _ (by omega)
 obtain ⟨row3,hrow3⟩:∃c,c=over row2 (i*2+2) (xs.drop (i*2)):=⟨_,rfl⟩
 have hs3:row3.size=row2.size:=by rw [hrow3];exact Xa8 _ _ _ (by rw [List.length_drop];omega)
 have hfin:row3.toList.take ((l.length+1)*2)=xs.take (i*2)++news++xs.drop (i*2):=by
  have:=Xeh ROW xs news (i*2) 2 (by omega) hRt hnl (by omega)
  rw [←hrow2,←hrow3] at this
  rw [show (l.length+1)*2=xs.length+2 by omega]
  exact this
 obtain ⟨W1,hW1⟩:∃W1,W1=w.drew.alloc (.cells ROW 184):=⟨_,rfl⟩
 have hN1:W1.heap[w.heap.size]? =some (.cells ROW 184 (0,0)):=by rw [hW1];exact heap_alloc_new w.drew _
 have ho1:∀b,b<w.heap.size→W1.heap[b]? =w.heap[b]? :=fun b hb=>by rw [hW1];exact Below.heap_alloc w.drew _ b hb
 rw [←hW1] at hrz
 have hcpA:∀ty dc,(Builtin.copy_ #[90,90] ty #[.slice (some ⟨w.heap.size,i*2,none⟩) (l.length+1-i) dc,.slice (some ⟨vb,0,none⟩) 1 1]).run Tryz.prog W1= .ok (goInt 1) (W1.setRow w.heap.size row2):=fun ty dc=>by
  have h:=Xa5 (P:=Tryz.prog) W1 90 90 ty 184 2 w.heap.size (i*2) (l.length+1-i) dc ⟨vb,0,none⟩ 1 1 ROW 184 news Tryz.underlying90 hsz hN1 (by rw [hnl];simp only [Nat.min_def];split<;>omega)
   (fun j u hj=>by
     rw [Addr.add_lit,Nat.zero_add,cell_of_row _ vb j _ _ _ ((ho1 vb hvw).trans hvb)];simpa using hj) (by omega) hn1
  rw [h,show Nat.min 1 (l.length+1-i)=1 by simp only [Nat.min_def];split<;>omega,hrow2]
  rfl
 have hN2:(W1.setRow w.heap.size row2).heap[w.heap.size]? =some (.cells row2 184 (0,0)):=setRow_heap W1 w.heap.size ROW row2 _ _ hN1
 have hcpB:∀ty dc sc,(Builtin.copy_ #[90,90] ty #[.slice (some ⟨w.heap.size,(i+1)*2,none⟩) (l.length-i) dc,.slice (some ⟨g,i*2,none⟩) (l.length-i) sc]).run Tryz.prog (W1.setRow w.heap.size row2).drew= .ok (goInt ((l.length-i:Nat):Int)) ((W1.setRow w.heap.size row2).drew.setRow w.heap.size row3):=fun ty dc sc=>by
  have h:=Xa5 (P:=Tryz.prog) (W1.setRow w.heap.size row2).drew 90 90 ty 184 2 w.heap.size ((i+1)*2) (l.length-i) dc ⟨g,i*2,none⟩ (l.length-i) sc row2 184 (xs.drop (i*2)) Tryz.underlying90 hsz hN2 (by rw [List.length_drop];simp only [Nat.min_def];split<;>omega)
   (fun j u hj=>by
     rw [Addr.add_lit]
     rw [List.getElem?_drop] at hj
     have hgg:(W1.setRow w.heap.size row2).heap[g]? =some (.cells cur 184 (0,0)):=by rw [setRow_other _ _ _ _ (by omega),ho1 g hgw];exact hg
     rw [World.cell?_drew,cell_of_row _ g _ cur _ _ hgg,←cell_of_row w g _ cur _ _ hg]
     exact hxcell _ u hj) (by rw [List.length_drop];omega) (fun u hu=>hL.oneCell u (List.mem_of_mem_drop hu))
  rw [h,show Nat.min (l.length-i) (l.length-i)=l.length-i by simp only [Nat.min_def];split<;>omega,hrow3]
  rw [show (i+1)*2=i*2+2 by omega]
  rfl
 have Hlen:=Qh (show (xs.take (i*2)++news++xs.drop (i*2)).length=(l.length+1)*2 by simp;omega)
 have Hsz:=Qh (show row3.size=G*2 by omega)
 have Hfin:=Qh hfin
 have HL:=Qh hL
 have Hx:=Qh hx
 have HN2:=Qh hN2
 have HW1:=Qh hW1
 have hb1:¬(G=i+1):=by omega
 have hb2:¬(G=i):=by omega
 have hb3:¬(cap=i):=by omega
 clear hfin hL hx hN2 hN1 hrow2 hrow3 hROW hRs hRt hxl hxl' hcs hcs' htk htk' hnl hn1 hvb hcm' hg hold hxcell ho1 hW1 hG hz hz0 hzs hs2 hs3
 have hw1:IntKind.i64.wrap ((i:Int)+1)=(i:Int)+1:=IntWalk.i64_in _ (by omega)
 have hw2:0≤(i:Int)+1:=by omega
 have hw3:((i:Int)+1).toNat=i+1:=by omega
 have hw4:i≤l.length:=by omega
 have hw5:(i:Int)≤(l.length:Int)+1:=by omega
 go_enter Tryz.func205,Tryz.ntmps205
 go_wp2_with (first
  |(at_builtin;refine Lib.wpList_append_run _ rfl _ _ _ _ rfl _ _ rfl rfl _ _ (hrz _) ?_)
  |(at_builtin;refine wpList_copy_runI _ rfl _ _ 90 90 rfl _ _ rfl rfl (hcpA _ _) ?_))
 go_region_law (refine step_copy_runI rfl _ _ 90 90 rfl _ _ (by simp [Act.eval,Act.put]) (by simp [Act.eval,Act.put]) (hcpB _ _ _) ?_)
 go_wp2
 go_ret
 have hln:(l.take i++x::l.drop i).length=l.length+1:=by simp;omega
 refine ⟨_,rfl,?_,?_⟩
 ·unfold OwnS
  rw [hln]
  refine ⟨xs.take (i*2)++news++xs.drop (i*2),⟨Hlen.out,.inr ⟨w.heap.size,G,row3,rfl,hB,setRow_heap _ w.heap.size row2 row3 _ _ HN2.out,hGn,by unfold maxLen;omega,Hsz.out,Hfin.out⟩⟩,?_⟩
  have:=((HL.out.take i).append (LiesL.one Hx.out)).append (HL.out.drop i)
  rwa [show l.take i++ [x]++l.drop i=l.take i++x::l.drop i by simp] at this
 ·rw [HW1.out]
  exact ⟨rfl,rfl,rfl,by simp,fun k hk _=>by
   rw [setRow_other _ _ _ _ (by omega)]
   show ((w.drew.alloc (.cells ROW 184)).setRow w.heap.size row2).heap[k]? =_
   rw [setRow_other _ _ _ _ (by omega)]
   exact Below.heap_alloc w.drew _ k hk⟩
theorem Xkx (I:IH) (B:Nat) (v:Value) (l:List _) (x:_) (vb i:Nat) (tb:TypeId) (news:List Value) (w:World) (hv:OwnS tHo 184 I w B v l) (hx:tHo.rd I news x)
 (hvb:w.heap[vb]? =some (.cells news.toArray tb (0,0))) (hne:v.ownBlock≠some vb) (hi:i≤l.length) (hbig:(l.length+1)*24≤140737488355328) (hB:B≤w.heap.size):
 Calls Tryz.prog 205 #[v,.int .i64 i,.slice (some ⟨vb,0,none⟩) 1 1] w fun e w'=> ∃v',e= .returned v'∧OwnS tHo 184 I w' B v' (l.take i++x::l.drop i)∧w.grownBy w' v.ownBlock:=by
 by_cases he:i=l.length
 ·subst he
  rw [List.take_length,List.drop_length]
  exact Xjf I B v l x vb news w hv hx (fun j u hj=>by rw [cell_of_row w vb j _ _ _ hvb];simpa using hj) hbig hB
 ·have hcase:∃g cap,v= .slice (some ⟨g,0,none⟩) l.length cap∧cap≤maxLen:=by
   obtain ⟨xs,⟨_,hown⟩,_⟩:=hv
   rcases hown with ⟨_,h⟩|⟨g,cap,cur,h1,_,_,_,h3,_⟩
   ·omega
   ·exact ⟨g,cap,h1,h3⟩
  obtain ⟨g,cap,rfl,hcm⟩:=hcase
  by_cases hr:l.length+1≤cap
  ·exact Xg9 I B g cap i l x vb tb news w hv hx hvb (fun e=>hne (by rw [e];rfl)) (by omega) hr (by unfold maxLen at hcm;omega)
  ·exact Xh4 I B g cap i l x vb tb news w hv hx hvb (by omega) (by omega) hbig hB
theorem Xkv (h:Ho):∀ {l:List Ho},l.any (fun x=>decide (0<cmpP x.p h.p))=false→insH h l=l.take l.length++h::l.drop l.length
 | [],_=>rfl
 |x::l,hn=>by
  rw [List.any_cons,Bool.or_eq_false_iff] at hn
  have hx:ltP (els h.p) (els x.p)=false:=by
   have:=of_decide_eq_false hn.1
   cases k:ltP (els h.p) (els x.p) with
   |false=>rfl
   |true=>
    exfalso
    apply this
    unfold cmpP
    rw [Xg2 k,k]
    simp
  rw [insH,if_neg (by simp [hx]),Xkv h hn.2]
  simp
theorem Xnh (h:Ho):∀ {l:List Ho} {i:Nat} (hi:i<l.length),decide (0<cmpP l[i].p h.p)=true→(l.take i).any (fun x=>decide (0<cmpP x.p h.p))=false→insH h l=l.take i++h::l.drop i
 | [],_,hi,_,_=>absurd hi (by simp)
 |x::l,0,_,hp,_=>by
  have hx:ltP (els h.p) (els x.p)=true:=by
   have:=of_decide_eq_true hp
   have h2:0<cmpP x.p h.p:=this
   unfold cmpP at h2
   split at h2
   ·omega
   ·split at h2
    ·assumption
    ·omega
  rw [insH,if_pos hx];rfl
 |x::l,i+1,hi,hp,hn=>by
  rw [List.take_succ_cons,List.any_cons,Bool.or_eq_false_iff] at hn
  have hx:ltP (els h.p) (els x.p)=false:=by
   have:=of_decide_eq_false hn.1
   cases k:ltP (els h.p) (els x.p) with
   |false=>rfl
   |true=>
    exfalso
    apply this
    unfold cmpP
    rw [Xg2 k,k]
    simp
  rw [insH,if_neg (by simp [hx]),Xnh h (l:=l) (by simpa using hi) hp hn.2]
  rfl
theorem Xl3 {p:Bytes} {l:List Ho} {k:Nat} {cur U:Int} {x:Ho} (hk:k<l.length) (hx:l[k]=x) (h:untilH p (l.drop k) cur=U):untilH p (l.drop (k+1)) (if x.p=p then max cur x.u else cur)=U:=by
 rw [List.drop_eq_getElem_cons hk,hx,untilH] at h;exact h
theorem Xr1 {l:List Ho} {e:Ent} {d:Int} (hk:e.kind=5):appH l e d=(insH ⟨e.path,untilH e.path (actP l d) (digits e.target)⟩ (restH (actP l d) e.path),0):=by rw [appH,if_pos hk]
theorem Xt2 {l:List Ho} {e:Ent} {d:Int} (hk:e.kind=6) (h:(restH (actP l d) e.path).length≠(actP l d).length):appH l e d=(restH (actP l d) e.path,0):=by
 rw [appH,if_neg (by omega),if_pos hk,if_pos]
 cases hh:hasH (actP l d) e.path with
 |true=>rfl
 |false=>exact absurd (rest_len.2 hh) h
theorem Xr0 {l:List Ho} {e:Ent} {d:Int} (hk:e.kind=6) (h:(restH (actP l d) e.path).length=(actP l d).length):appH l e d=([],9):=by
 rw [appH,if_neg (by omega),if_pos hk,if_neg]
 rw [rest_len.1 h];simp
theorem Xt4 {l:List Ho} {e:Ent} {d:Int} (h5:e.kind≠5) (h6:e.kind≠6):appH l e d=(actP l d,0):=by
 rw [appH,if_neg h5,if_neg h6]
theorem Xil {s:Bytes} (h:dateOk s=true):s.length≤10:=by
 unfold dateOk at h
 simp only [Bool.and_eq_true,decide_eq_true_eq] at h
 exact h.1.1.1.2
set_option maxRecDepth 100000 in
theorem Xep (p:Bytes) (b:Nat) (l:List Ho) (w:World) (hc:w.cell? ⟨b,1,none⟩=some (S p)):PredH 201 #[.pointer (some ⟨b,0,none⟩)] l (fun h=> !(h.p==p)) (Below w.heap.size w):=by
 intro x hx W hW
 have hcW:=Xab (.cells #[S x.p,.int .i64 x.u] 184) (Xaa hW hc)
 clear hc
 show Calls Tryz.prog _ #[hoV x,.pointer (some ⟨b,0,none⟩)] W _
 go_enter Tryz.func201,Tryz.ntmps201
 go_wp2
 go_ret
 exact ⟨rfl,(Qb _ _).alloc (Qn _) _⟩
set_option maxRecDepth 100000 in
theorem Xp0 (I:IH) (hI:Glob I) (p:Bytes) (hp:p.length≤4294967280) (b:Nat) (l:List Ho) (hl:∀h∈l,h.p.length≤4294967280) (w:World) (hw:Ok I w) (hc:w.cell? ⟨b,1,none⟩=some (S p)):PredH 204 #[.pointer (some ⟨b,0,none⟩)] l (fun h=>decide (0<cmpP h.p p)) (Below w.heap.size w):=by
 intro x hx W hW
 have Hu:=Qh (Xid I hI x.p p (hl x hx) hp (W.alloc (.cells #[S x.p,.int .i64 x.u] 184)) ((hw.below (Qn _) hW).alloc _))
 have hcW:=Xab (.cells #[S x.p,.int .i64 x.u] 184) (Xaa hW hc)
 clear hc
 show Calls Tryz.prog _ #[hoV x,.pointer (some ⟨b,0,none⟩)] W _
 go_enter Tryz.func204,Tryz.ntmps204
 go_wp2_with fail
 refine Hu.out.mono ?_
 rintro e w1 ⟨rfl,hb1⟩
 go_wp2
 go_ret
 exact ⟨rfl,((Qb _ _).alloc (Qn _) _).trans (hb1.mono (by simp))⟩
set_option maxRecDepth 100000 in
set_option maxHeartbeats 4000000 in
theorem Xm7 (I:IH) (hI:Glob I) (v:Value) (l:List Ho) (hv:RdS tHo I v l) (hk:HOk l) (hn:l.length≤100000) (e:Ent) (va vx:Value) (hva:RdS tAt I va e.attrs) (hvx:RdS tXt I vx e.exts) (he:entErr e=0) (d:Int) (w:World) (hw:Ok I w):
 Calls Tryz.prog 130 #[v,entV e va vx,.int .i64 d] w (RetL tHo I w (appH l e d).1 (appH l e d).2):=by
 have Ha:=Qh (fun w hw=>Xeq I v l hv hn d w hw)
 have HG:=Qh hI
 have hpl:e.path.length≤4294967280:=by have:=(Xcb (Xb6 he).2.2.1).1;omega
 have Hd:=Qh (fun h5=>Xkw he h5)
 have HE:=Qh (@Xr1 l e d)
 have HR:=Qh (@Xt2 l e d)
 have HM:=Qh (@Xr0 l e d)
 have HL:=Qh (@Xt4 l e d)
 have hal:(actP l d).length≤100000:=Nat.le_trans (List.length_filter_le _ _) hn
 have Hka:=Qh (hk.act d)
 have hrl:(restH (actP l d) e.path).length≤(actP l d).length:=List.length_filter_le _ _
 have Hkr:=Qh ((hk.act d).rest e.path)
 have hrest:(actP l d).filter (fun h=> !(h.p==e.path))=restH (actP l d) e.path:=rfl
 obtain ⟨ao,cap,rfl,hcap,hcm,_⟩:=id hv
 obtain ⟨aa,ca,rfl,_,_,_⟩:=id hva
 obtain ⟨ax,cx,rfl,_,_,_⟩:=id hvx
 clear hv hva hvx hI hk he
 generalize hra:restH (actP l d) e.path=rest at hrl Hkr hrest HE HR HM
 generalize hac:actP l d=act at Ha hal Hka hrl hrest HE HR HM HL
 have Hrest:=Qh hrest
 clear hra hac hrest
 by_cases h5:e.kind=5
 case neg=>
  have k5:((e.kind:Int)==5)=false:=by simpa using h5
  by_cases h6:e.kind=6
  case neg=>
   have k6:((e.kind:Int)==6)=false:=by simpa using h6
   have Hn:=Qh (HL.out h5 h6)
   clear h5 h6
   go_enter Tryz.func130,Tryz.ntmps130
   go_wp2_with fail
   refine (Ha.out _ (hw.alloc _)).mono ?_
   rintro e1 w1 ⟨v1,rfl,hown1,hb1⟩
   have HB1:=Qh (entB (e:=e) rfl hb1)
   have hok0:Ok I w1:=(hw.alloc _).below (Qn _) hb1
   have hsz1:w.heap.size<w1.heap.size:=by have:=hb1.size;simp at this;omega
   have hfr:∀b,w.heap.size≤b→I b=none:=fun b hb=>hw.fresh hb
   have hb1':=((Qb w.heap.size w).alloc (Qn _) (.cells #[.int .i64 e.kind,S e.path,.slice aa e.attrs.length ca,S e.target,.int .i64 e.size,S e.digest,.slice ax e.exts.length cx] 35)).trans (hb1.mono (by simp))
   obtain ⟨I1,hI1,hok1,hrd1,_⟩:=(hown1.lower (show w.heap.size≤_ by simp)).freeze hok0 hfr
   have HI1:=Qh hI1
   have Hrd1:=Qh hrd1
   have HG1:=Qh (HG.out.mono (hI1.keep hw (Qn _)))
   have Hs:=Qh (Xcf I1 v1 act hrd1 hal _ _ _ w1 hok1 (fun _ _=>by kernel_rfl) (Xep e.path w.heap.size act w1 HB1.out.c1))
   obtain ⟨a1,cp1,rfl,hcp1,hcm1,_⟩:=id hrd1
   clear hown1 hb1 hfr hrd1 hI1 hok0
   go_wp2_with fail
   refine Hs.out.mono ?_
   rintro e2 w2 ⟨v2,rfl,hown2,hb2⟩
   rw [Hrest.out] at hown2
   have hfr1:∀b,w1.heap.size≤b→I1 b=none:=fun b hb=>hok1.fresh hb
   have Hfr1:=Qh hfr1
   have hok2:Ok I1 w2:=hok1.below (Qn _) hb2
   have HB2:=Qh (HB1.out.thru hb2)
   have hb2':=hb1'.trans (hb2.mono hb1'.size)
   have hsz2:w1.heap.size≤w2.heap.size:=hb2.size
   clear hb2 hb1' HB1 hok1 Hs hfr1
   obtain ⟨I2,hI2,hok2',hrd2,_⟩:=hown2.freeze hok2 Hfr1.out
   have Hown2:=Qh hown2
   have HI2:=Qh hI2
   have Hrd2:=Qh hrd2
   obtain ⟨a2,cp2,rfl,hcp2,hcm2,_⟩:=id hrd2
   clear hown2 hrd2 hI2
   obtain ⟨c0,c1,c2,c3,c4,c5,c6⟩:=HB2.out
   go_wp2
   go_ret2
   rw [Hn.out]
   exact ⟨_,I1,rfl,hb2',HI1.out,hok2,Hrd1.out⟩
  have k6:((e.kind:Int)==6)=true:=by simpa using h6
  by_cases heq:rest.length=act.length
  ·have Hn:=Qh (HM.out h6 heq)
   have q1:((rest.length:Int)==act.length)=true:=by rw [heq];simp
   clear h5 h6 heq
   go_enter Tryz.func130,Tryz.ntmps130
   go_wp2_with fail
   refine (Ha.out _ (hw.alloc _)).mono ?_
   rintro e1 w1 ⟨v1,rfl,hown1,hb1⟩
   have HB1:=Qh (entB (e:=e) rfl hb1)
   have hok0:Ok I w1:=(hw.alloc _).below (Qn _) hb1
   have hsz1:w.heap.size<w1.heap.size:=by have:=hb1.size;simp at this;omega
   have hfr:∀b,w.heap.size≤b→I b=none:=fun b hb=>hw.fresh hb
   have hb1':=((Qb w.heap.size w).alloc (Qn _) (.cells #[.int .i64 e.kind,S e.path,.slice aa e.attrs.length ca,S e.target,.int .i64 e.size,S e.digest,.slice ax e.exts.length cx] 35)).trans (hb1.mono (by simp))
   obtain ⟨I1,hI1,hok1,hrd1,_⟩:=(hown1.lower (show w.heap.size≤_ by simp)).freeze hok0 hfr
   have HI1:=Qh hI1
   have Hrd1:=Qh hrd1
   have HG1:=Qh (HG.out.mono (hI1.keep hw (Qn _)))
   have Hs:=Qh (Xcf I1 v1 act hrd1 hal _ _ _ w1 hok1 (fun _ _=>by kernel_rfl) (Xep e.path w.heap.size act w1 HB1.out.c1))
   obtain ⟨a1,cp1,rfl,hcp1,hcm1,_⟩:=id hrd1
   clear hown1 hb1 hfr hrd1 hI1 hok0
   go_wp2_with fail
   refine Hs.out.mono ?_
   rintro e2 w2 ⟨v2,rfl,hown2,hb2⟩
   rw [Hrest.out] at hown2
   have hfr1:∀b,w1.heap.size≤b→I1 b=none:=fun b hb=>hok1.fresh hb
   have Hfr1:=Qh hfr1
   have hok2:Ok I1 w2:=hok1.below (Qn _) hb2
   have HB2:=Qh (HB1.out.thru hb2)
   have hb2':=hb1'.trans (hb2.mono hb1'.size)
   have hsz2:w1.heap.size≤w2.heap.size:=hb2.size
   clear hb2 hb1' HB1 hok1 Hs hfr1
   obtain ⟨I2,hI2,hok2',hrd2,_⟩:=hown2.freeze hok2 Hfr1.out
   have Hown2:=Qh hown2
   have HI2:=Qh hI2
   have Hrd2:=Qh hrd2
   obtain ⟨a2,cp2,rfl,hcp2,hcm2,_⟩:=id hrd2
   clear hown2 hrd2 hI2
   obtain ⟨c0,c1,c2,c3,c4,c5,c6⟩:=HB2.out
   go_wp2
   go_ret2
   rw [Hn.out]
   exact ⟨_,I1,rfl,hb2',HI1.out,hok2,RdS.nil _ _⟩
  ·have Hn:=Qh (HR.out h6 heq)
   have q1:((rest.length:Int)==act.length)=false:=by
    have:((rest.length:Int))≠act.length:=by omega
    simpa using this
   clear h5 h6 heq
   go_enter Tryz.func130,Tryz.ntmps130
   go_wp2_with fail
   refine (Ha.out _ (hw.alloc _)).mono ?_
   rintro e1 w1 ⟨v1,rfl,hown1,hb1⟩
   have HB1:=Qh (entB (e:=e) rfl hb1)
   have hok0:Ok I w1:=(hw.alloc _).below (Qn _) hb1
   have hsz1:w.heap.size<w1.heap.size:=by have:=hb1.size;simp at this;omega
   have hfr:∀b,w.heap.size≤b→I b=none:=fun b hb=>hw.fresh hb
   have hb1':=((Qb w.heap.size w).alloc (Qn _) (.cells #[.int .i64 e.kind,S e.path,.slice aa e.attrs.length ca,S e.target,.int .i64 e.size,S e.digest,.slice ax e.exts.length cx] 35)).trans (hb1.mono (by simp))
   obtain ⟨I1,hI1,hok1,hrd1,_⟩:=(hown1.lower (show w.heap.size≤_ by simp)).freeze hok0 hfr
   have HI1:=Qh hI1
   have Hrd1:=Qh hrd1
   have HG1:=Qh (HG.out.mono (hI1.keep hw (Qn _)))
   have Hs:=Qh (Xcf I1 v1 act hrd1 hal _ _ _ w1 hok1 (fun _ _=>by kernel_rfl) (Xep e.path w.heap.size act w1 HB1.out.c1))
   obtain ⟨a1,cp1,rfl,hcp1,hcm1,_⟩:=id hrd1
   clear hown1 hb1 hfr hrd1 hI1 hok0
   go_wp2_with fail
   refine Hs.out.mono ?_
   rintro e2 w2 ⟨v2,rfl,hown2,hb2⟩
   rw [Hrest.out] at hown2
   have hfr1:∀b,w1.heap.size≤b→I1 b=none:=fun b hb=>hok1.fresh hb
   have Hfr1:=Qh hfr1
   have hok2:Ok I1 w2:=hok1.below (Qn _) hb2
   have HB2:=Qh (HB1.out.thru hb2)
   have hb2':=hb1'.trans (hb2.mono hb1'.size)
   have hsz2:w1.heap.size≤w2.heap.size:=hb2.size
   clear hb2 hb1' HB1 hok1 Hs hfr1
   obtain ⟨I2,hI2,hok2',hrd2,_⟩:=hown2.freeze hok2 Hfr1.out
   have Hown2:=Qh hown2
   have HI2:=Qh hI2
   have Hrd2:=Qh hrd2
   obtain ⟨a2,cp2,rfl,hcp2,hcm2,_⟩:=id hrd2
   clear hown2 hrd2 hI2
   obtain ⟨c0,c1,c2,c3,c4,c5,c6⟩:=HB2.out
   go_wp2
   go_ret2
   rw [Hn.out]
   exact ⟨_,I2,rfl,hb2',HI1.out.trans HI2.out (Nat.le_of_lt hsz1),hok2',Hrd2.out⟩
 have k5:((e.kind:Int)==5)=true:=by simpa using h5
 have Hn:=Qh (HE.out h5)
 have htl:e.target.length≤4294967280:=by
  have hh:=(Xnp (Hd.out h5)).2.2.2
  have h1:=Xil (Hd.out h5)
  omega
 have Hdt:=Qh (fun w=>Xpz e.target htl (Hd.out h5) w)
 obtain ⟨d0,hd0⟩:∃d0,digits e.target=d0:=⟨_,rfl⟩
 obtain ⟨U,hU⟩:∃U,untilH e.path act d0=U:=⟨_,rfl⟩
 rw [hd0] at Hdt Hn
 rw [hU] at Hn
 have HU:=Qh hU
 clear h5 hd0 htl hU
 go_enter Tryz.func130,Tryz.ntmps130
 go_wp2_with fail
 refine (Ha.out _ (hw.alloc _)).mono ?_
 rintro e1 w1 ⟨v1,rfl,hown1,hb1⟩
 have HB1:=Qh (entB (e:=e) rfl hb1)
 have hok0:Ok I w1:=(hw.alloc _).below (Qn _) hb1
 have hsz1:w.heap.size<w1.heap.size:=by have:=hb1.size;simp at this;omega
 have hfr:∀b,w.heap.size≤b→I b=none:=fun b hb=>hw.fresh hb
 have hb1':=((Qb w.heap.size w).alloc (Qn _) (.cells #[.int .i64 e.kind,S e.path,.slice aa e.attrs.length ca,S e.target,.int .i64 e.size,S e.digest,.slice ax e.exts.length cx] 35)).trans (hb1.mono (by simp))
 obtain ⟨I1,hI1,hok1,hrd1,_⟩:=(hown1.lower (show w.heap.size≤_ by simp)).freeze hok0 hfr
 have HI1:=Qh hI1
 have Hrd1:=Qh hrd1
 have HG1:=Qh (HG.out.mono (hI1.keep hw (Qn _)))
 have Hs:=Qh (Xcf I1 v1 act hrd1 hal _ _ _ w1 hok1 (fun _ _=>by kernel_rfl) (Xep e.path w.heap.size act w1 HB1.out.c1))
 obtain ⟨a1,cp1,rfl,hcp1,hcm1,_⟩:=id hrd1
 clear hown1 hb1 hfr hrd1 hI1 hok0
 go_wp2_with fail
 refine Hs.out.mono ?_
 rintro e2 w2 ⟨v2,rfl,hown2,hb2⟩
 rw [Hrest.out] at hown2
 have hfr1:∀b,w1.heap.size≤b→I1 b=none:=fun b hb=>hok1.fresh hb
 have Hfr1:=Qh hfr1
 have hok2:Ok I1 w2:=hok1.below (Qn _) hb2
 have HB2:=Qh (HB1.out.thru hb2)
 have hb2':=hb1'.trans (hb2.mono hb1'.size)
 have hsz2:w1.heap.size≤w2.heap.size:=hb2.size
 clear hb2 hb1' HB1 hok1 Hs hfr1
 obtain ⟨I2,hI2,hok2',hrd2,_⟩:=hown2.freeze hok2 Hfr1.out
 have Hown2:=Qh hown2
 have HI2:=Qh hI2
 have Hrd2:=Qh hrd2
 obtain ⟨a2,cp2,rfl,hcp2,hcm2,_⟩:=id hrd2
 clear hown2 hrd2 hI2
 obtain ⟨c0,c1,c2,c3,c4,c5,c6⟩:=HB2.out
 go_wp2_with fail
 refine (Hdt.out _).mono ?_
 rintro e3 w3 ⟨rfl,hb3⟩
 have hok3:Ok I1 w3:=hok2.below (Qn _) hb3
 have hok3':Ok I2 w3:=hok2'.below (Qn _) hb3
 have HB3:=Qh (HB2.out.thru hb3)
 have Hown3:=Qh (Hown2.out.below hb3)
 have hsz3:w2.heap.size≤w3.heap.size:=hb3.size
 have hb3':=hb2'.trans (hb3.mono hb2'.size)
 clear c0 c1 c2 c3 c4 c5 c6 HB2 Hown2 hok2 hok2' hb3 hb2'
 go_wp2_with fail
 go_loopw [10,35] (fun s10 s35 wr=> ∃(k:Nat) (cur:Int),k≤act.length∧s10= .int .i64 cur∧s35= .int .i64 k∧untilH e.path (act.drop k) cur=U∧Below w3.heap.size w3 wr) (fun _ i _=>act.length-(intOf i).toNat)
 case atStart=>exact ⟨0,d0,Nat.zero_le _,rfl,rfl,HU.out,Qb _ _⟩
 case round=>
  obtain ⟨k,cur,hk,rfl,rfl,hu,hb⟩:=hrel
  have Hu:=Qh hu
  clear hu
  by_cases hlt:k<act.length
  ·obtain ⟨x,b,off,cap',hlx,hvv,x0,x1⟩:=hoAt Hrd1.out (hok3.below (Qn _) hb) k hlt
   cases hvv
   have Hst:=Qh (Xl3 hlt hlx Hu.out)
   obtain ⟨c0,c1,c2,c3,c4,c5,c6⟩:=HB3.out.thru hb
   have c1':=Xab (.cells #[S x.p,.int .i64 x.u] 184) c1
   clear hlx Hu c0 c1 c2 c3 c4 c5 c6
   cases hq:(x.p==e.path)
   ·have Hn2:=Qh (show untilH e.path (act.drop (k+1)) cur=U by have:=Hst.out;rwa [if_neg (by simpa using hq)] at this)
    clear Hst
    go_wp2
    go_roundw
    case rel=>exact ⟨k+1,cur,by omega,rfl,by go_num,Hn2.out,hb.alloc hb.size _⟩
    case measure=>simp [intOf];omega
   ·have Hn2:=Qh (show untilH e.path (act.drop (k+1)) (max cur x.u)=U by have:=Hst.out;rwa [if_pos (by simpa using hq)] at this)
    clear Hst
    go_wp2
    go_roundw
    case rel=>exact ⟨k+1,max cur x.u,by omega,rfl,by go_num,Hn2.out,hb.alloc hb.size _⟩
    case measure=>simp [intOf];omega
  ·have hcur:cur=U:=by have:=Hu.out;rwa [List.drop_of_length_le (by omega)] at this
   subst hcur
   have hokr:Ok I2 wr:=hok3'.below (Qn _) hb
   have hokr1:Ok I1 wr:=hok3.below (Qn _) hb
   have HBr:=Qh (HB3.out.thru hb)
   have Hownr:=Qh (Hown3.out.below hb)
   have hbr':=hb3'.trans (hb.mono hb3'.size)
   have hszr:w3.heap.size≤wr.heap.size:=hb.size
   have Hix:=Qh (Xea I2 _ rest Hrd2.out _ _ _ wr hokr (fun _ _=>by kernel_rfl) (Xp0 I1 HG1.out e.path hpl w.heap.size rest Hkr.out.short wr hokr1 HBr.out.c1))
   have hcs:=Xcd rest (fun h=>decide (0<cmpP h.p e.path))
   clear Hu hb hb3' HB3 Hown3 hok3 hok3' hokr
   rcases hcs with ⟨i,hi,e1,e2,e3⟩|⟨e1,e2⟩
   ·rw [e1] at Hix
    have Hi:=Qh (Xnh ⟨e.path,cur⟩ hi e2 e3)
    clear e1 e2 e3
    go_wp2_with fail
    refine Hix.out.mono ?_
    rintro e5 w5 ⟨rfl,hb5⟩
    have hok5:=hokr1.below (Qn _) hb5
    have HB5:=Qh (HBr.out.thru hb5)
    have Hown5:=Qh (Hownr.out.below hb5)
    have hb5':=hbr'.trans (hb5.mono hbr'.size)
    have hsz5:wr.heap.size≤w5.heap.size:=hb5.size
    obtain ⟨c0,c1,c2,c3,c4,c5,c6⟩:=HB5.out
    clear hb5 hbr' HBr Hownr hokr1 c0 c2 c3 c4 c5 c6
    have hne:=Hown5.out.ne_ge (Qn w5.heap.size)
    have Hins:=Qh (Xkx I1 w1.heap.size _ rest ⟨e.path,cur⟩ w5.heap.size i 184 [S e.path,.int .i64 cur] _ (Hown5.out.alloc (.cells #[S e.path,.int .i64 cur] 184)) rfl (heap_alloc_new w5 (.cells #[S e.path,.int .i64 cur] 184)) hne (by omega) (by omega) (by simp;omega))
    clear hne
    go_wp2_with fail
    refine Hins.out.mono ?_
    rintro e8 w8 ⟨v8,rfl,hown8,hg8⟩
    have Hown8:=Qh hown8
    have Hg8:=Qh hg8
    clear hown8 hg8
    go_wp2
    go_ret2
    have hown5:=Hown5.out.alloc (.cells #[S e.path,.int .i64 cur] 184)
    have hb8:=Below.own (hb5'.alloc hb5'.size _) Hg8.out hown5 (Nat.le_of_lt hsz1) (by simp;omega)
    have hok8:Ok I1 w8:=Ok.own (hok5.alloc _) Hg8.out hown5 Hfr1.out
    obtain ⟨I',hI1,hI2,hI3,_⟩:=Hown8.out.freeze hok8 Hfr1.out
    rw [Hn.out]
    exact ⟨_,I',rfl,hb8,HI1.out.trans hI1 (Nat.le_of_lt hsz1),hI2,by rw [Hi.out];exact hI3⟩
   ·rw [e1] at Hix
    have Hi:=Qh (Xkv ⟨e.path,cur⟩ e2)
    clear e1 e2
    go_wp2_with fail
    refine Hix.out.mono ?_
    rintro e5 w5 ⟨rfl,hb5⟩
    have hok5:=hokr1.below (Qn _) hb5
    have HB5:=Qh (HBr.out.thru hb5)
    have Hown5:=Qh (Hownr.out.below hb5)
    have hb5':=hbr'.trans (hb5.mono hbr'.size)
    have hsz5:wr.heap.size≤w5.heap.size:=hb5.size
    obtain ⟨c0,c1,c2,c3,c4,c5,c6⟩:=HB5.out
    clear hb5 hbr' HBr Hownr hokr1 c0 c2 c3 c4 c5 c6
    have hne:=Hown5.out.ne_ge (Qn w5.heap.size)
    have Hins:=Qh (Xkx I1 w1.heap.size _ rest ⟨e.path,cur⟩ w5.heap.size rest.length 184 [S e.path,.int .i64 cur] _ (Hown5.out.alloc (.cells #[S e.path,.int .i64 cur] 184)) rfl (heap_alloc_new w5 (.cells #[S e.path,.int .i64 cur] 184)) hne (by omega) (by omega) (by simp;omega))
    clear hne
    go_wp2_with fail
    refine Hins.out.mono ?_
    rintro e8 w8 ⟨v8,rfl,hown8,hg8⟩
    have Hown8:=Qh hown8
    have Hg8:=Qh hg8
    clear hown8 hg8
    go_wp2
    go_ret2
    have hown5:=Hown5.out.alloc (.cells #[S e.path,.int .i64 cur] 184)
    have hb8:=Below.own (hb5'.alloc hb5'.size _) Hg8.out hown5 (Nat.le_of_lt hsz1) (by simp;omega)
    have hok8:Ok I1 w8:=Ok.own (hok5.alloc _) Hg8.out hown5 Hfr1.out
    obtain ⟨I',hI1,hI2,hI3,_⟩:=Hown8.out.freeze hok8 Hfr1.out
    rw [Hn.out]
    exact ⟨_,I',rfl,hb8,HI1.out.trans hI1 (Nat.le_of_lt hsz1),hI2,by rw [Hi.out];exact hI3⟩
end Go.Proofs.YtkipnpjagcfcpaaGreatDoor
namespace Go.Proofs.YtkipnpjagcfcpaaGreatDoor
open Go.RowKit Go.Lib
theorem Xat {T e:TypeId} {B b:Nat} {bs:List Value} {w w':World} (h:Lib.IsBuilder T e B b bs w) (hb:Below w.heap.size w w'):Lib.IsBuilder T e B b bs w':=by
 have key:∀p,Lib.BuilderAt T e B b p bs w→Lib.BuilderAt T e B b p bs w':=fun p h=>by
  have hlt:=h.lt
  obtain ⟨hB,v,hv,hown,hne⟩:=h
  refine ⟨hB,v,(hb.block b hlt).trans hv,hown.kept (row:=none) ⟨hb.os,hb.tape,hb.output,hb.size,fun k hk _=>hb.block k hk⟩ ?_,hne⟩
  cases v.ownBlock<;>simp
 rcases h with h|h
 ·exact .inl (key _ h)
 ·exact .inr (key _ h)
set_option maxRecDepth 100000 in
set_option maxHeartbeats 400000 in
theorem Xbu (I:IH) (hI:Glob I) (s:Bytes) (hs:s.length≤140737488355200) (w:World) (hw:Ok I w):
 Calls Tryz.prog 27 #[S s] w fun e w'=>e= .returned (S (netP s))∧Below w.heap.size w w':=by
 have hil:=Xdx s.length (by omega)
 go_enter Tryz.func27,Tryz.ntmps27
 go_wp2_with fail
 refine (Xjc I hI _ _ hw (by omega) (by omega)).mono ?_
 rintro e w1 ⟨rfl,hb1⟩
 go_wp2
 go_ret
 exact ⟨Xfy (by simp [netP]),hb1⟩
set_option maxRecDepth 100000 in
set_option maxHeartbeats 400000 in
theorem Xb0 (I:IH) (hI:Glob I) (n:Nat) (hn:n≤140737488355200) (w:World) (hw:Ok I w):
 Calls Tryz.prog 24 #[.int .i64 n] w fun e w'=>e= .returned (S (numP n))∧Below w.heap.size w w':=by
 have hil:=Xdx n (by omega)
 go_enter Tryz.func24,Tryz.ntmps24
 go_wp2_with fail
 refine (Xjc I hI _ _ hw (by omega) (by omega)).mono ?_
 rintro e w1 ⟨rfl,hb1⟩
 go_wp2
 go_ret
 exact ⟨rfl,hb1⟩
def StrsAt (w:World) (b off:Nat) (l:List Bytes):Prop:= ∀(j:Nat) x,l[j]? =some x→w.cell? ⟨b,off+j,none⟩=some (S x)
theorem Xh6 (W:World) (l:List Bytes) (T:TypeId):StrsAt (W.alloc (.cells (l.map fun s=>S s).toArray T)) W.heap.size 0 l:=fun j x hx=>by
 rw [cell_of_row _ W.heap.size _ _ _ _ (heap_alloc_new W _),Nat.zero_add,List.getElem?_toArray,List.getElem?_map,hx]
 rfl
set_option maxRecDepth 100000 in
set_option maxHeartbeats 800000 in
theorem Xg1 (I:IH) (hI:Glob I) (b off cap n:Nat) (l:List Bytes) (hln:l.length=n) (hcap:l.length≤cap) (hcm:cap≤maxLen) (w:World) (hv:StrsAt w b off l) (hs:(netsP l).length≤140737488355200) (hw:Ok I w):
 Calls Tryz.prog 51 #[.slice (some ⟨b,off,none⟩) n cap] w fun e w'=>e= .returned (S (netsP l))∧Below w.heap.size w w':=by
 subst hln
 have hlen:l.length≤9223372036854775807:=by unfold maxLen at hcm;omega
 have Hv:=Qh hv;clear hv
 have hfr:Lib.IsBuilder 71 5 w.heap.size w.heap.size (Lib.byteCells (netsP (l.take 0))) (w.alloc (.cells #[.pointer none,.slice none 0 0] 71)):=Lib.fresh_isBuilder _ _ w
 have Hfr:=Qh hfr;clear hfr
 go_enter Tryz.func51,Tryz.ntmps51
 go_wp2_with fail
 go_loopw [8] (fun s8 wr=> ∃k:Nat,k≤l.length∧s8= .int .i64 k∧Lib.IsBuilder 71 5 w.heap.size w.heap.size (Lib.byteCells (netsP (l.take k))) wr∧Below w.heap.size w wr∧w.heap.size<wr.heap.size) (fun i _=>l.length-(intOf i).toNat)
 case atStart=>exact ⟨0,Nat.zero_le _,rfl,Hfr.out,(Qb _ _).alloc (Qn _) _,by simp⟩
 case round=>
  obtain ⟨k,hk,rfl,hbd,hb,hsz⟩:=hrel
  have Hbd:=Qh hbd;clear hbd
  have hwr:Ok I wr:=hw.below (Qn _) hb
  by_cases hlt:k<l.length
  ·obtain ⟨s,hls⟩:∃s,l[k]=s:=⟨_,rfl⟩
   have hc:wr.cell? ⟨b,off+k,none⟩=some (S s):=Xaa hb (Hv.out k s (by rw [List.getElem?_eq_getElem hlt,hls]))
   have Htk:=Qh (show netsP (l.take (k+1))=netsP (l.take k)++netP s by rw [List.take_succ_eq_append_getElem hlt,Xfr,hls];simp [netsP])
   have Hall:=Qh (show netsP l=netsP (l.take (k+1))++netsP (l.drop (k+1)) by rw [←Xfr,List.take_append_drop])
   have hbig:(netsP (l.take k)).length+(netP s).length≤140737488355200:=by
    rw [Hall.out,Htk.out] at hs;simp at hs;omega
   have hsl:s.length≤140737488355200:=by
    have:s.length≤(netP s).length:=by simp [netP];omega
    omega
   clear hls
   go_wp2_with fail
   refine (Xbu I hI s hsl _ hwr).mono ?_
   rintro e w1 ⟨rfl,hb1⟩
   have hbd1:=Xat Hbd.out hb1
   have hsz1:=hb1.size
   go_wp2_with fail
   refine (Tryz.Builder_WriteString w.heap.size w.heap.size _ _ _ hbd1 (by rw [ByteArray.size_mk',List.size_toArray];simp [Lib.byteCells];omega) (by omega)).mono ?_
   rintro e w2 ⟨rfl,hbd2,hb2⟩
   have hsz2:=hbd2.lt
   have Hbd2:Hid (Lib.IsBuilder 71 5 w.heap.size w.heap.size (Lib.byteCells (netsP (l.take (k+1)))) w2):=Qh (.inr (by
    have:=hbd2
    rw [Lib.strCells_toArray,Lib.byteCells,Lib.byteCells,←List.map_append,←Htk.out] at this
    exact this))
   clear hbd1 hbd2
   go_wp2
   go_roundw
   case rel=>exact ⟨k+1,by omega,by go_num,Hbd2.out,(hb.trans (hb1.mono (Nat.le_of_lt hsz))).trans hb2,by omega⟩
   case measure=>simp [intOf];omega
  ·have hke:l.take k=l:=List.take_of_length_le (by omega)
   rw [hke] at Hbd
   clear hke
   go_wp2_with fail
   refine (Tryz.Builder_String_any w.heap.size w.heap.size _ _ Hbd.out (Nat.le_of_lt hsz)).mono ?_
   rintro e w1 ⟨rfl,hb1⟩
   go_wp2
   go_ret
   exact ⟨rfl,hb.trans hb1⟩
def tenDigits:Bytes:= [48,49,50,51,52,53,54,55,56,57]
theorem Xj0 (u:Nat) (h:u<10):(tenDigits.drop u).take (u+1-u)=decDigits u:=by
 rw [decDigits_one h]
 match u,h with
 |0,_=>rfl
 |1,_=>rfl
 |2,_=>rfl
 |3,_=>rfl
 |4,_=>rfl
 |5,_=>rfl
 |6,_=>rfl
 |7,_=>rfl
 |8,_=>rfl
 |9,_=>rfl
theorem Xjo {n:Nat} (h:¬n<10):decDigits n=decDigits (n / 10)++decDigits (n%10):=by
 rw [decDigits_one (i:=n%10) (by omega),decDigits.eq_def n,dif_neg h]
set_option maxRecDepth 100000 in
set_option maxHeartbeats 400000 in
theorem Xkf (u:Nat) (hu:u<18446744073709551616):∀w:World,Calls Tryz.prog 113 #[.int .u64 u] w fun e w'=>e= .returned (S (decDigits u))∧Below w.heap.size w w':=by
 induction u using Nat.strongRecOn with
 |ind u ih=>
  intro w
  have hl1:(decDigits u).length≤20:=by rw [decDigits_length];exact Xff _ _ (by omega) (by omega)
  by_cases h:u<10
  ·have Ht:=Qh (Xj0 u h)
   clear ih hl1
   go_enter Tryz.func113,Tryz.ntmps113
   go_wp2
   go_ret
   exact ⟨Xfy (by have h:=Ht.out;rwa [show u+1-u=1 by omega] at h),Qb _ _⟩
  ·have Hd:=Qh (Xjo h)
   have hi1:=ih (u / 10) (by omega) (by omega)
   have hi2:=ih (u%10) (by omega) (by omega)
   have hl2:(decDigits (u / 10)).length+(decDigits (u%10)).length≤20:=by rw [Hd.out,List.length_append] at hl1;exact hl1
   have Hi1:=Qh hi1
   have Hi2:=Qh hi2
   rw [show ((u / 10:Nat):Int)=(u:Int) / 10 by omega] at Hi1
   rw [show ((u%10:Nat):Int)=(u:Int)%10 by omega] at Hi2
   clear ih hi1 hi2 hl1
   go_enter Tryz.func113,Tryz.ntmps113
   go_wp2_with fail
   refine (Hi1.out _).mono ?_
   rintro e w1 ⟨rfl,hb1⟩
   go_wp2_with fail
   refine (Hi2.out _).mono ?_
   rintro e w2 ⟨rfl,hb2⟩
   go_wp2
   go_ret
   exact ⟨Xfy Hd.out.symm,hb1.trans (hb2.mono hb1.size)⟩
set_option maxRecDepth 100000 in
set_option maxHeartbeats 400000 in
theorem Xkg (n:Nat) (hn:n≤9223372036854775807) (w:World):Calls Tryz.prog 64 #[.int .i64 n] w fun e w'=>e= .returned (S (itoa n))∧Below w.heap.size w w':=by
 have Hi:=Qh (show itoa (n:Int)=decDigits n by simp [itoa])
 have hw:IntKind.u64.wrap (n:Int)=n:=IntWalk.u64_in _ (by omega)
 go_enter Tryz.func64,Tryz.ntmps64
 go_wp2_with fail
 refine (Xkf n (by omega) _).mono ?_
 rintro e w1 ⟨rfl,hb1⟩
 go_wp2
 go_ret
 exact ⟨Xfy Hi.out.symm,hb1⟩
set_option maxRecDepth 100000 in
set_option maxHeartbeats 400000 in
theorem Xa9 (s:Bytes) (hs:s.length≤140737488355200) (w:World):
 Calls Tryz.prog 31 #[S s] w fun e w'=>e= .returned (S (netP s))∧Below w.heap.size w w':=by
 have hil:=Xdx s.length (by omega)
 go_enter Tryz.func31,Tryz.ntmps31
 go_wp2_with fail
 refine (Xkg _ (by omega) _).mono ?_
 rintro e w1 ⟨rfl,hb1⟩
 go_wp2
 go_ret
 exact ⟨Xfy (by simp [netP]),hb1⟩
set_option maxRecDepth 100000 in
set_option maxHeartbeats 400000 in
theorem Xb4 (n:Nat) (hn:n≤140737488355200) (w:World):
 Calls Tryz.prog 29 #[.int .i64 n] w fun e w'=>e= .returned (S (numP n))∧Below w.heap.size w w':=by
 have hil:=Xdx n (by omega)
 go_enter Tryz.func29,Tryz.ntmps29
 go_wp2_with fail
 refine (Xkg n (by omega) _).mono ?_
 rintro e w1 ⟨rfl,hb1⟩
 go_wp2
 go_ret
 exact ⟨rfl,hb1⟩
end Go.Proofs.YtkipnpjagcfcpaaGreatDoor
namespace Go.Proofs.YtkipnpjagcfcpaaGreatDoor
open Go.RowKit
theorem Xbp:(Tryz.prog.info? 35).map (fun i=>(i.zero,i.size,i.bytes))=some (some (.agg #[.int .i64 0,.string ⟨#[]⟩,.slice none 0 0,.string ⟨#[]⟩,.int .i64 0,.string ⟨#[]⟩,.slice none 0 0]),7,112):=by kernel_rfl
set_option maxRecDepth 100000 in
set_option maxHeartbeats 400000 in
theorem Xbq (I:IH) (v:Value) (l:List _) (hv:RdS tEnt I v l) (w:World) (hw:Ok I w) (hbig:l.length*112≤140737488355328):
 Calls Tryz.prog 82 #[v] w fun e w'=> ∃v',e= .returned v'∧OwnS tEnt 35 I w' w.heap.size v' l∧Below w.heap.size w w':=by
 obtain ⟨i0,hi,hz0,hz1,hz2⟩:=info_parts Xbp
 have q22:∀(w:World) (a:Option Addr) (n c n' c':Nat),(binOp .eql 60 (.slice a n c) (.slice none n' c')).run Tryz.prog w= .ok (.bool a.isNone) w:=fun w a n c n' c'=>Lib.run_eql_slice_nil w _ _ a n c n' c' Tryz.underlying60
 obtain ⟨ao,cap,xs,rfl,hcap,hcm,hL,hx⟩:=hv.cells hw (by decide)
 have HL:=Qh hL
 have Hx:=Qh hx
 clear hL hx hv
 cases ao with
 |none=>
  have h0:l.length=0:=by
   rcases Nat.eq_zero_or_pos l.length with h|h
   ·exact h
   ·obtain ⟨b,off,arr,e,_⟩:=Hx.out h;cases e
  have:l= []:=List.eq_nil_of_length_eq_zero h0
  subst this
  go_enter Tryz.func82,Tryz.ntmps82
  go_wp2
  go_ret
  exact ⟨_,rfl,OwnS.nil _ _ _ _ _,Qb _ _⟩
 |some a=>
  go_enter Tryz.func82,Tryz.ntmps82
  go_wp2_with (at_builtin;refine wpList_append_own _ rfl _ _ 60 rfl w.heap.size 35 i0 _ 7 112 Tryz.underlying60 hi hz0 hz1 hz2 rfl (by decide) _ _ _ rfl (World.ownsRow_made w #[] 0 (Qn _) (Nat.zero_le _) (by simp)) a l.length cap xs rfl ?qc1 ?qc2 ?qc3 ?qc4 ?qc5 ?qc6 ?_)
  case qc1=>exact HL.out.1
  case qc2=>
   intro j u hj
   have hl:0<l.length:=by
    have:=(List.getElem?_eq_some_iff.1 hj).1
    rw [HL.out.1] at this
    rcases Nat.eq_zero_or_pos l.length with h|h
    ·rw [h] at this;omega
    ·exact h
   obtain ⟨b,off,arr,e,_,hb,hc⟩:=Hx.out hl
   cases e
   rw [Addr.add_lit]
   rw [World.cell?_alloc_lt _ _ _ hb]
   exact hc j u hj
  case qc3=>exact HL.out.oneCell
  case qc4=>rw [Nat.zero_add];omega
  case qc5=>rw [Nat.zero_add];exact hbig
  case qc6=>simp
  intro v' w1 hown hgrow _
  go_wp2
  go_ret
  refine ⟨v',rfl,⟨xs,(by have hq:=hown;first|exact hq|(simp at hq;exact hq)),HL.out⟩,?_⟩
  exact ((Qb _ w).alloc (Qn _) _).grown hgrow (by simp) (by intro k hk;simp [Value.ownBlock] at hk;omega)
set_option maxRecDepth 100000 in
set_option maxHeartbeats 2000000 in
theorem Xh5 (I:IH) (B:Nat) (v:Value) (l:List _) (x:_) (vb:Nat) (news:List Value) (w:World) (hv:OwnS tEnt 35 I w B v l) (hx:tEnt.rd I news x)
 (hvs:∀j u,news[j]? =some u→w.cell? ⟨vb,j,none⟩=some u) (hbig:(l.length+1)*112≤140737488355328) (hB:B≤w.heap.size):
 Calls Tryz.prog 200 #[v,.int .i64 l.length,.slice (some ⟨vb,0,none⟩) 1 1] w fun e w'=> ∃v',e= .returned v'∧OwnS tEnt 35 I w' B v' (l++ [x])∧w.grownBy w' v.ownBlock:=by
 obtain ⟨i0,hi,hz0,hz1,hz2⟩:=info_parts Xbp
 obtain ⟨xs,hown,hL⟩:=hv
 have HL:=Qh hL
 have Hx:=Qh hx
 have Hvs:=Qh hvs
 have hml:maxLen=9223372036854775807:=rfl
 have hlen:l.length≤4611686018427387904:=by omega
 clear hL hx hvs
 have hcase:v= .slice none 0 0∧l.length=0∨ ∃g cap,v= .slice (some ⟨g,0,none⟩) l.length cap∧l.length≤cap∧cap≤9223372036854775807:=by
  rcases hown.2 with h|⟨g,cap,cur,h1,_,_,h2,h3,_⟩
  ·exact .inl h
  ·exact .inr ⟨g,cap,h1,h2,by rw [hml] at h3;exact h3⟩
 have Hml:=Qh hml
 clear hml
 rcases hcase with ⟨rfl,h0⟩|⟨g,cap,rfl,hcap,hcm⟩
 ·have:l= []:=List.eq_nil_of_length_eq_zero h0
  subst this
  go_enter Tryz.func200,Tryz.ntmps200
  go_wp2_with (at_builtin;refine wpList_append_own _ rfl _ _ 60 rfl B 35 i0 _ 7 112 Tryz.underlying60 hi hz0 hz1 hz2 rfl (by decide) _ _ _ rfl hown ⟨vb,0,none⟩ 1 1 news rfl ?qc1 ?qc2 ?qc3 ?qc4 ?qc5 ?qc6 ?_)
  case qc1=>exact tEnt.len Hx.out
  case qc2=>intro j u hj;rw [Addr.add_lit,Nat.zero_add];exact Hvs.out j u hj
  case qc3=>exact tEnt.one Hx.out
  case qc4=>rw [Hml.out];simp
  case qc5=>simp
  case qc6=>exact hB
  intro v' w1 hown1 hgrow _
  go_wp2
  go_ret
  exact ⟨v',rfl,⟨_,hown1,LiesL.append HL.out (LiesL.one Hx.out)⟩,hgrow⟩
 ·go_enter Tryz.func200,Tryz.ntmps200
  go_wp2_with (at_builtin;refine wpList_append_own _ rfl _ _ 60 rfl B 35 i0 _ 7 112 Tryz.underlying60 hi hz0 hz1 hz2 rfl (by decide) _ _ _ rfl hown ⟨vb,0,none⟩ 1 1 news rfl (tEnt.len Hx.out) (fun j u hj=>by rw [Addr.add_lit,Nat.zero_add];exact Hvs.out j u hj) (tEnt.one Hx.out) (by rw [Hml.out];omega) hbig hB ?_)
  all_goals
   intro v' w1 hown1 hgrow _
   go_wp2
   go_ret
   exact ⟨v',rfl,⟨_,by rw [List.length_append];exact hown1,LiesL.append HL.out (LiesL.one Hx.out)⟩,hgrow⟩
set_option maxRecDepth 100000 in
set_option maxHeartbeats 4000000 in
theorem Xf1 (I:IH) (B g cap i:Nat) (l:List _) (x:_) (vb:Nat) (tb:TypeId) (news:List Value) (w:World) (hv:OwnS tEnt 35 I w B (.slice (some ⟨g,0,none⟩) l.length cap) l) (hx:tEnt.rd I news x)
 (hvb:w.heap[vb]? =some (.cells news.toArray tb (0,0))) (hne:vb≠g) (hi:i<l.length) (hroom:l.length+1≤cap) (hcm:cap≤9223372036854775807):
 Calls Tryz.prog 200 #[.slice (some ⟨g,0,none⟩) l.length cap,.int .i64 i,.slice (some ⟨vb,0,none⟩) 1 1] w fun e w'=> ∃v',e= .returned v'∧OwnS tEnt 35 I w' B v' (l.take i++x::l.drop i)∧w.grownBy w' (some g):=by
 obtain ⟨i0,hif,hz0,hz1,hz2⟩:=info_parts Xbp
 obtain ⟨xs,⟨hxl,hown⟩,hL⟩:=hv
 rcases hown with ⟨h0,_⟩|⟨g',cap',cur,h1,hBg,hg,_,hcm',hcs,htk⟩
 ·cases h0
 injection h1 with h1a h1b h1c
 injection h1a with h1a
 injection h1a with h1a
 subst h1a h1c
 have hsz:(Tryz.prog.info? 35).map (·.size)=some 7:=by rw [hif];simp [hz1]
 have hnl:news.length=7:=tEnt.len hx
 have hn1:=tEnt.one hx
 have hxl':xs.length=l.length*7:=hxl
 have hcs':cur.size=cap*7:=hcs
 have htk':cur.toList.take xs.length=xs:=by rw [hxl];exact htk
 have hov:∀lb cb,(callFunc 262 #[.slice (some ⟨vb,0,none⟩) 1 1,.slice (some ⟨g,(i+1)*7,none⟩) lb cb]).run Tryz.prog w= .ok (.value (.bool false)) w:=fun lb cb=>by
  rw [run_callFunc_extern Tryz.func262 (by kernel_rfl) (by kernel_rfl) (by kernel_rfl) (e:=Extern.SlicesOverlaps.overlaps #[60,60] #[4]) (by kernel_rfl),
   Lib.run_overlaps_apart w 60 4 35 Tryz.underlying60 7 (fun w=>by simp [go_sem]) ⟨vb,0,none⟩ ⟨g,(i+1)*7,none⟩ 1 1 lb cb hne tb 35 7 cur.size (by simp [World.shape?,hvb,hnl]) (by simp [World.shape?,hg]) (by omega) (by simp [World.frozen?,hvb]) (by simp [World.frozen?,hvb])]
  rfl
 obtain ⟨cur1,hcur1⟩:∃c,c=over cur (i*7+7) (xs.drop (i*7)):=⟨_,rfl⟩
 have hs1:cur1.size=cur.size:=by rw [hcur1];exact Xa8 _ _ _ (by rw [List.length_drop];omega)
 obtain ⟨cur2,hcur2⟩:∃c,c=over cur1 (i*7) news:=⟨_,rfl⟩
 have hs2:cur2.size=cur1.size:=by rw [hcur2];exact Xa8 _ _ _ (by omega)
 have hfin:cur2.toList.take ((l.length+1)*7)=xs.take (i*7)++news++xs.drop (i*7):=by
  have:=insert_row cur xs news (i*7) 7 (by omega) htk' hnl (by omega)
  rw [←hcur1,←hcur2] at this
  rw [show (l.length+1)*7=xs.length+7 by omega]
  exact this
 have hcp1:∀ty dc sc,(Builtin.copy_ #[60,60] ty #[.slice (some ⟨g,(i+1)*7,none⟩) (l.length-i) dc,.slice (some ⟨g,i*7,none⟩) (l.length+1-i) sc]).run Tryz.prog w.drew= .ok (goInt ((l.length-i:Nat):Int)) (w.drew.setRow g cur1):=fun ty dc sc=>by
  have h:=Xa5 (P:=Tryz.prog) w.drew 60 60 ty 35 7 g ((i+1)*7) (l.length-i) dc ⟨g,i*7,none⟩ (l.length+1-i) sc cur 35 (xs.drop (i*7)) Tryz.underlying60 hsz hg (by rw [List.length_drop];simp only [Nat.min_def];split<;>omega)
   (fun j u hj=>by
     rw [Addr.add_lit]
     rw [List.getElem?_drop,←htk',List.getElem?_take] at hj
     split at hj
     ·rw [World.cell?_drew,cell_of_row w g _ cur _ _ hg,←Array.getElem?_toList];exact hj
     ·cases hj) (by rw [List.length_drop];omega) (fun u hu=>hL.oneCell u (List.mem_of_mem_drop hu))
  rw [h,show Nat.min (l.length+1-i) (l.length-i)=l.length-i by simp only [Nat.min_def];split<;>omega,hcur1]
  rw [show (i+1)*7=i*7+7 by omega]
  rfl
 have hg1:(w.drew.setRow g cur1).heap[g]? =some (.cells cur1 35 (0,0)):=setRow_heap w.drew g cur cur1 _ _ hg
 have hcp2:∀ty dc,(Builtin.copy_ #[60,60] ty #[.slice (some ⟨g,i*7,none⟩) (l.length+1-i) dc,.slice (some ⟨vb,0,none⟩) 1 1]).run Tryz.prog (w.drew.setRow g cur1)= .ok (goInt 1) ((w.drew.setRow g cur1).setRow g cur2):=fun ty dc=>by
  have h:=Xa5 (P:=Tryz.prog) (w.drew.setRow g cur1) 60 60 ty 35 7 g (i*7) (l.length+1-i) dc ⟨vb,0,none⟩ 1 1 cur1 35 news Tryz.underlying60 hsz hg1 (by rw [hnl];simp only [Nat.min_def];split<;>omega)
   (fun j u hj=>by
     rw [Addr.add_lit,Nat.zero_add]
     have:(w.drew.setRow g cur1).heap[vb]? =some (.cells news.toArray tb (0,0)):=by rw [setRow_other _ _ _ _ hne];exact hvb
     rw [cell_of_row _ vb j _ _ _ this];simpa using hj) (by omega) hn1
  rw [h,show Nat.min 1 (l.length+1-i)=1 by simp only [Nat.min_def];split<;>omega,hcur2]
  rfl
 have Hlen:=Qh (show (xs.take (i*7)++news++xs.drop (i*7)).length=(l.length+1)*7 by simp;omega)
 have Hsz:=Qh (show cur2.size=cap*7 by omega)
 have Hfin:=Qh hfin
 have HL:=Qh hL
 have Hx:=Qh hx
 have Hg1:=Qh hg1
 have hb1:¬(cap=i+1):=by omega
 have hb2:¬(cap=i):=by omega
 clear hfin hL hx hg1 hcur1 hcur2 hxl hxl' hcs hcs' htk htk' hnl hn1 hvb hcm' hg
 have hw1:IntKind.i64.wrap ((i:Int)+1)=(i:Int)+1:=IntWalk.i64_in _ (by omega)
 have hw2:0≤(i:Int)+1:=by omega
 have hw3:((i:Int)+1).toNat=i+1:=by omega
 have hw4:i≤l.length:=by omega
 have hw5:(i:Int)≤(l.length:Int)+1:=by omega
 go_enter Tryz.func200,Tryz.ntmps200
 go_wp2_with (simp only [hov])
 go_region_law (refine step_copy_runI rfl _ _ 60 60 rfl _ _ (by simp [Act.eval,Act.put]) (by simp [Act.eval,Act.put]) (hcp1 _ _ _) ?_)
 go_wp2_with (at_builtin;refine wpList_copy_runI _ rfl _ _ 60 60 rfl _ _ rfl rfl (hcp2 _ _) ?_)
 go_ret
 have hln:(l.take i++x::l.drop i).length=l.length+1:=by simp;omega
 refine ⟨_,rfl,?_,?_⟩
 ·unfold OwnS
  rw [hln]
  refine ⟨xs.take (i*7)++news++xs.drop (i*7),⟨Hlen.out,.inr ⟨g,cap,cur2,rfl,hBg,setRow_heap _ g cur1 cur2 _ _ Hg1.out,by omega,by unfold maxLen;omega,Hsz.out,Hfin.out⟩⟩,?_⟩
  have:=((HL.out.take i).append (LiesL.one Hx.out)).append (HL.out.drop i)
  rwa [show l.take i++ [x]++l.drop i=l.take i++x::l.drop i by simp] at this
 ·have h0:w.grownBy w.drew (some g):=⟨rfl,rfl,rfl,Qn _,fun _ _ _=>rfl⟩
  exact Xbi (Xbi h0 Xas) Xas
set_option maxRecDepth 100000 in
set_option maxHeartbeats 4000000 in
theorem Xhi (I:IH) (B g cap i:Nat) (l:List _) (x:_) (vb:Nat) (tb:TypeId) (news:List Value) (w:World) (hv:OwnS tEnt 35 I w B (.slice (some ⟨g,0,none⟩) l.length cap) l) (hx:tEnt.rd I news x)
 (hvb:w.heap[vb]? =some (.cells news.toArray tb (0,0))) (hi:i<l.length) (hroom:cap<l.length+1) (hbig:(l.length+1)*112≤140737488355328) (hB:B≤w.heap.size):
 Calls Tryz.prog 200 #[.slice (some ⟨g,0,none⟩) l.length cap,.int .i64 i,.slice (some ⟨vb,0,none⟩) 1 1] w fun e w'=> ∃v',e= .returned v'∧OwnS tEnt 35 I w' B v' (l.take i++x::l.drop i)∧w.grownBy w' (some g):=by
 obtain ⟨i0,hif,hz0,hz1,hz2⟩:=info_parts Xbp
 obtain ⟨xs,⟨hxl,hown⟩,hL⟩:=hv
 rcases hown with ⟨h0,_⟩|⟨g',cap',cur,h1,hBg,hg,hnc,hcm',hcs,htk⟩
 ·cases h0
 injection h1 with h1a h1b h1c
 injection h1a with h1a
 injection h1a with h1a
 subst h1a h1c
 have hsz:(Tryz.prog.info? 35).map (·.size)=some 7:=by rw [hif];simp [hz1]
 have hnl:news.length=7:=tEnt.len hx
 have hn1:=tEnt.one hx
 have hxl':xs.length=l.length*7:=hxl
 have hcs':cur.size=cap*7:=hcs
 have htk':cur.toList.take xs.length=xs:=by rw [hxl];exact htk
 have hgw:g<w.heap.size:=(Array.getElem?_eq_some_iff.1 hg).1
 have hvw:vb<w.heap.size:=(Array.getElem?_eq_some_iff.1 hvb).1
 have hxcell:∀(j:Nat) u,xs[j]? =some u→w.cell? ⟨g,j,none⟩=some u:=fun j u hj=>by
  rw [←htk',List.getElem?_take] at hj
  split at hj
  ·rw [cell_of_row w g _ cur _ _ hg,←Array.getElem?_toList];exact hj
  ·cases hj
 have hold:(Builtin.firstCells i0.size i (.slice (some ⟨g,0,none⟩) i cap)).run Tryz.prog w.drew= .ok (xs.take (i*7)).toArray w.drew:=
  run_firstCells_some w.drew i0.size i ⟨g,0,none⟩ i cap (xs.take (i*7)) (by rw [hz1,List.length_take];omega) (fun j u hj=>by
   rw [Addr.add_lit,Nat.zero_add]
   rw [List.getElem?_take] at hj
   split at hj
   ·exact hxcell j u hj
   ·cases hj)
 obtain ⟨G,hG⟩:∃G,G=grownCap w (l.length+1) cap 35:=⟨_,rfl⟩
 have hGn:l.length+1≤G:=by rw [hG];exact grownCap_ge w _ _ _
 have hG63:G≤9223372036854775807:=by
  have:=grownCap_le_maxLen w (l.length+1) cap 35 (by unfold maxLen;omega)
  rw [←hG] at this
  unfold maxLen at this
  omega
 obtain ⟨z,hz⟩:∃z,i0.zero=some z:=⟨_,hz0⟩
 have hzs:z.cells.size=7:=by rw [hz] at hz0;cases hz0;rfl
 obtain ⟨ROW,hROW⟩:∃ROW:Array Value,ROW=(xs.take (i*7)).toArray++Builtin.zeroCells z.cells (l.length+1-i)++Builtin.zeroCells z.cells (G-(l.length+1)):=⟨_,rfl⟩
 have hRs:ROW.size=G*7:=by
  rw [hROW,Array.size_append,Array.size_append,size_zeroCells,size_zeroCells,hzs]
  simp
  omega
 have hRt:ROW.toList.take (i*7)=xs.take (i*7):=by
  rw [hROW,Array.toList_append,Array.toList_append,List.append_assoc,List.take_append_of_le_length (by simp;omega),List.take_of_length_le (by simp;omega)]
 have hrz:∀ty,(Builtin.append_ #[60,3] ty #[.slice (some ⟨g,0,none⟩) i cap,.int .i64 ((l.length:Int)+1-(i:Int))]).run Tryz.prog w=
  .ok (.slice (some ⟨w.heap.size,0,none⟩) (l.length+1) G) (w.drew.alloc (.cells ROW 35)):=fun ty=>by
  have h:=Lib.run_append_grow_zeros w 60 3 ty 35 i0 z .i64 .i64 Tryz.underlying60 Tryz.underlying3 hif hz (some ⟨g,0,none⟩) i cap (xs.take (i*7)) hold (l.length+1-i) (by omega) (by rw [hz1];omega) (by omega) (by omega) (by rw [hz2];omega) (by rw [hz2,show i+(l.length+1-i)=l.length+1 by omega];exact growslice_fits hroom hbig)
  rw [show i+(l.length+1-i)=l.length+1 by omega,←hG,←hROW] at h
  rw [show (l.length:Int)+1-(i:Int)=((l.length+1-i:Nat):Int) by omega]
  exact h
 obtain ⟨row2,hrow2⟩:∃c,c=over ROW (i*7) news:=⟨_,rfl⟩
 have hs2:row2.size=ROW.size:=by rw [hrow2];exact Xa8 _ _ _ (by omega)
 obtain ⟨row3,hrow3⟩:∃c,c=over row2 (i*7+7) (xs.drop (i*7)):=⟨_,rfl⟩
 have hs3:row3.size=row2.size:=by rw [hrow3];exact Xa8 _ _ _ (by rw [List.length_drop];omega)
 have hfin:row3.toList.take ((l.length+1)*7)=xs.take (i*7)++news++xs.drop (i*7):=by
  have:=Xeh ROW xs news (i*7) 7 (by omega) hRt hnl (by omega)
  rw [←hrow2,←hrow3] at this
  rw [show (l.length+1)*7=xs.length+7 by omega]
  exact this
 obtain ⟨W1,hW1⟩:∃W1,W1=w.drew.alloc (.cells ROW 35):=⟨_,rfl⟩
 have hN1:W1.heap[w.heap.size]? =some (.cells ROW 35 (0,0)):=by rw [hW1];exact heap_alloc_new w.drew _
 have ho1:∀b,b<w.heap.size→W1.heap[b]? =w.heap[b]? :=fun b hb=>by rw [hW1];exact Below.heap_alloc w.drew _ b hb
 rw [←hW1] at hrz
 have hcpA:∀ty dc,(Builtin.copy_ #[60,60] ty #[.slice (some ⟨w.heap.size,i*7,none⟩) (l.length+1-i) dc,.slice (some ⟨vb,0,none⟩) 1 1]).run Tryz.prog W1= .ok (goInt 1) (W1.setRow w.heap.size row2):=fun ty dc=>by
  have h:=Xa5 (P:=Tryz.prog) W1 60 60 ty 35 7 w.heap.size (i*7) (l.length+1-i) dc ⟨vb,0,none⟩ 1 1 ROW 35 news Tryz.underlying60 hsz hN1 (by rw [hnl];simp only [Nat.min_def];split<;>omega)
   (fun j u hj=>by
     rw [Addr.add_lit,Nat.zero_add,cell_of_row _ vb j _ _ _ ((ho1 vb hvw).trans hvb)];simpa using hj) (by omega) hn1
  rw [h,show Nat.min 1 (l.length+1-i)=1 by simp only [Nat.min_def];split<;>omega,hrow2]
  rfl
 have hN2:(W1.setRow w.heap.size row2).heap[w.heap.size]? =some (.cells row2 35 (0,0)):=setRow_heap W1 w.heap.size ROW row2 _ _ hN1
 have hcpB:∀ty dc sc,(Builtin.copy_ #[60,60] ty #[.slice (some ⟨w.heap.size,(i+1)*7,none⟩) (l.length-i) dc,.slice (some ⟨g,i*7,none⟩) (l.length-i) sc]).run Tryz.prog (W1.setRow w.heap.size row2).drew= .ok (goInt ((l.length-i:Nat):Int)) ((W1.setRow w.heap.size row2).drew.setRow w.heap.size row3):=fun ty dc sc=>by
  have h:=Xa5 (P:=Tryz.prog) (W1.setRow w.heap.size row2).drew 60 60 ty 35 7 w.heap.size ((i+1)*7) (l.length-i) dc ⟨g,i*7,none⟩ (l.length-i) sc row2 35 (xs.drop (i*7)) Tryz.underlying60 hsz hN2 (by rw [List.length_drop];simp only [Nat.min_def];split<;>omega)
   (fun j u hj=>by
     rw [Addr.add_lit]
     rw [List.getElem?_drop] at hj
     have hgg:(W1.setRow w.heap.size row2).heap[g]? =some (.cells cur 35 (0,0)):=by rw [setRow_other _ _ _ _ (by omega),ho1 g hgw];exact hg
     rw [World.cell?_drew,cell_of_row _ g _ cur _ _ hgg,←cell_of_row w g _ cur _ _ hg]
     exact hxcell _ u hj) (by rw [List.length_drop];omega) (fun u hu=>hL.oneCell u (List.mem_of_mem_drop hu))
  rw [h,show Nat.min (l.length-i) (l.length-i)=l.length-i by simp only [Nat.min_def];split<;>omega,hrow3]
  rw [show (i+1)*7=i*7+7 by omega]
  rfl
 have Hlen:=Qh (show (xs.take (i*7)++news++xs.drop (i*7)).length=(l.length+1)*7 by simp;omega)
 have Hsz:=Qh (show row3.size=G*7 by omega)
 have Hfin:=Qh hfin
 have HL:=Qh hL
 have Hx:=Qh hx
 have HN2:=Qh hN2
 have HW1:=Qh hW1
 have hb1:¬(G=i+1):=by omega
 have hb2:¬(G=i):=by omega
 have hb3:¬(cap=i):=by omega
 clear hfin hL hx hN2 hN1 hrow2 hrow3 hROW hRs hRt hxl hxl' hcs hcs' htk htk' hnl hn1 hvb hcm' hg hold hxcell ho1 hW1 hG hz hz0 hzs hs2 hs3
 have hw1:IntKind.i64.wrap ((i:Int)+1)=(i:Int)+1:=IntWalk.i64_in _ (by omega)
 have hw2:0≤(i:Int)+1:=by omega
 have hw3:((i:Int)+1).toNat=i+1:=by omega
 have hw4:i≤l.length:=by omega
 have hw5:(i:Int)≤(l.length:Int)+1:=by omega
 go_enter Tryz.func200,Tryz.ntmps200
 go_wp2_with (first
  |(at_builtin;refine Lib.wpList_append_run _ rfl _ _ _ _ rfl _ _ rfl rfl _ _ (hrz _) ?_)
  |(at_builtin;refine wpList_copy_runI _ rfl _ _ 60 60 rfl _ _ rfl rfl (hcpA _ _) ?_))
 go_region_law (refine step_copy_runI rfl _ _ 60 60 rfl _ _ (by simp [Act.eval,Act.put]) (by simp [Act.eval,Act.put]) (hcpB _ _ _) ?_)
 go_wp2
 go_ret
 have hln:(l.take i++x::l.drop i).length=l.length+1:=by simp;omega
 refine ⟨_,rfl,?_,?_⟩
 ·unfold OwnS
  rw [hln]
  refine ⟨xs.take (i*7)++news++xs.drop (i*7),⟨Hlen.out,.inr ⟨w.heap.size,G,row3,rfl,hB,setRow_heap _ w.heap.size row2 row3 _ _ HN2.out,hGn,by unfold maxLen;omega,Hsz.out,Hfin.out⟩⟩,?_⟩
  have:=((HL.out.take i).append (LiesL.one Hx.out)).append (HL.out.drop i)
  rwa [show l.take i++ [x]++l.drop i=l.take i++x::l.drop i by simp] at this
 ·rw [HW1.out]
  exact ⟨rfl,rfl,rfl,by simp,fun k hk _=>by
   rw [setRow_other _ _ _ _ (by omega)]
   show ((w.drew.alloc (.cells ROW 35)).setRow w.heap.size row2).heap[k]? =_
   rw [setRow_other _ _ _ _ (by omega)]
   exact Below.heap_alloc w.drew _ k hk⟩
theorem Xot (I:IH) (B:Nat) (v:Value) (l:List _) (x:_) (vb i:Nat) (tb:TypeId) (news:List Value) (w:World) (hv:OwnS tEnt 35 I w B v l) (hx:tEnt.rd I news x)
 (hvb:w.heap[vb]? =some (.cells news.toArray tb (0,0))) (hne:v.ownBlock≠some vb) (hi:i≤l.length) (hbig:(l.length+1)*112≤140737488355328) (hB:B≤w.heap.size):
 Calls Tryz.prog 200 #[v,.int .i64 i,.slice (some ⟨vb,0,none⟩) 1 1] w fun e w'=> ∃v',e= .returned v'∧OwnS tEnt 35 I w' B v' (l.take i++x::l.drop i)∧w.grownBy w' v.ownBlock:=by
 by_cases he:i=l.length
 ·subst he
  rw [List.take_length,List.drop_length]
  exact Xh5 I B v l x vb news w hv hx (fun j u hj=>by rw [cell_of_row w vb j _ _ _ hvb];simpa using hj) hbig hB
 ·have hcase:∃g cap,v= .slice (some ⟨g,0,none⟩) l.length cap∧cap≤maxLen:=by
   obtain ⟨xs,⟨_,hown⟩,_⟩:=hv
   rcases hown with ⟨_,h⟩|⟨g,cap,cur,h1,_,_,_,h3,_⟩
   ·omega
   ·exact ⟨g,cap,h1,h3⟩
  obtain ⟨g,cap,rfl,hcm⟩:=hcase
  by_cases hr:l.length+1≤cap
  ·exact Xf1 I B g cap i l x vb tb news w hv hx hvb (fun e=>hne (by rw [e];rfl)) (by omega) hr (by unfold maxLen at hcm;omega)
  ·exact Xhi I B g cap i l x vb tb news w hv hx hvb (by omega) (by omega) hbig hB
theorem Xl8 {P:Program} (w:World) (t e ty:TypeId) (z:Value) (ht:P.underlying t=some (.slice e)) (hv:∀w,(zeroValue e).run P w= .ok z w) (g o n c:Nat) (h1:∀u∈(Builtin.zeroCells z.cells n).toList,u.oneCell'=true) (hn:0<n) (cur:Array Value) (tt:TypeId)
 (hg:w.heap[g]? =some (.cells cur tt (0,0))) (hfit:o+n*z.cells.size≤cur.size):
 (Builtin.clear_ #[t] ty #[.slice (some ⟨g,o,none⟩) n c]).run P w= .ok (.tuple #[]) (w.setRow g (cur.toList.take o++(Builtin.zeroCells z.cells n).toList++cur.toList.drop (o+n*z.cells.size)).toArray):=by
 have hl:(Builtin.zeroCells z.cells n).toList.length=n*z.cells.size:=by rw [Array.length_toList,size_zeroCells]
 have hst:=run_storeCells_at (P:=P) g o tt (Builtin.zeroCells z.cells n).toList 0 cur w hg (by rw [hl];omega) h1
 rw [hl] at hst
 simp only [Nat.add_zero] at hst
 obtain ⟨m,rfl⟩:∃m,n=m+1:=⟨n-1,by omega⟩
 simp [Builtin.clear_,run_underlying ht,hv,hst]
theorem Xby {P:Program} {ops:Array Oper} {rest:List Oper} {op:Oper} {a:Act} {w:World} {Q:Exit→Act→World→Prop} (hgd:op.guard=none) (ty:TypeId) (x y:Operand) (ho:op.op= .store ty x y)
 (g o:Nat) (cs:List Value) (hx:a.eval x= .pointer (some ⟨g,o,none⟩)) (hy:a.eval y= .agg cs.toArray) (cur:Array Value) (tt:TypeId)
 (hg:w.heap[g]? =some (.cells cur tt (0,0))) (hfit:o+cs.length≤cur.size) (hi:(P.info? ty).map (·.size)=some cs.length) (h1:∀v∈cs,v.oneCell'=true)
 (h:wpList P ops Q rest (a.put op.dst undef) (w.setRow g (over cur o cs))):wpList P ops Q (op::rest) a w:=by
 refine wpList_plain hgd fun _ hK=> ?_
 have hst:=run_storeCells_at (P:=P) g o tt cs 0 cur w hg (by simpa using hfit) h1
 have hsv:(storeVar ty ⟨g,o,none⟩ (.agg cs.toArray)).run P w= .ok () (w.setRow g (over cur o cs)):=by
  cases hq:P.info? ty with
  |none=>simp [hq] at hi
  |some i=>
   have hs:cs.length=i.size:=by simp [hq] at hi;omega
   simp only [Nat.add_zero] at hst
   simp [storeVar,sizeOf,typeInfo,hq,Value.cells,hs,hst,over]
 unfold Oper.wp execOp
 simp only [ho,hx,hy,Instr.storeAt,Instr.sureAddr,Sem.run_bind,Sem.run_pure,Result.andThen_ok,hsv]
 exact hK _ _ h
theorem Xqi (cur:Array Value) (o m:Nat) (cs:List Value) (h:o+cs.length≤m) (ho:o≤cur.size):(over cur o cs).toList.drop m=cur.toList.drop m:=by
 simp only [over]
 rw [List.drop_append,List.drop_eq_nil_of_le (by simp;omega),List.nil_append,List.drop_drop]
 congr 1
 simp
 omega
theorem Xdr {B:Nat} {w w':World} {r:Option Nat} (h:Below B w w') (hB:w.heap.size≤B):w.grownBy w' r:=
 ⟨h.os,h.tape,h.output,h.size,fun k hk _=>h.block k (by omega)⟩
structure DelE (I:IH) (gb:Nat) (cur:Array Value) (w0:World) (F:List Ent) (j:Nat) (X:World):Prop where
 row_:∃arr,X.heap[gb]? =some (.cells arr 35 (0,0))∧arr.size=cur.size∧LiesL tEnt I (arr.toList.take (F.length*7)) F∧arr.toList.drop (j*7)=cur.toList.drop (j*7)
 grown:w0.grownBy X (some gb)
section
variable {I:IH} {gb j:Nat} {cur:Array Value} {w0 X X':World} {F:List Ent}
theorem DelE.pass (h:DelE I gb cur w0 F j X) (hb:Below X.heap.size X X'):DelE I gb cur w0 F j X':=by
 obtain ⟨arr,h1,h2⟩:=h.row_
 have hlt:gb<X.heap.size:=(Array.getElem?_eq_some_iff.1 h1).1
 refine ⟨⟨arr,(hb.block _ hlt).trans h1,h2⟩,?_⟩
 exact ⟨hb.os.trans h.grown.os,hb.tape.trans h.grown.tape,hb.output.trans h.grown.output,Nat.le_trans h.grown.size hb.size,fun k hk hne=>(hb.block k (Nat.lt_of_lt_of_le hk h.grown.size)).trans (h.grown.block k hk hne)⟩
theorem DelE.next (h:DelE I gb cur w0 F j X):DelE I gb cur w0 F (j+1) X:=by
 obtain ⟨arr,h1,h2,h3,h4⟩:=h.row_
 refine ⟨⟨arr,h1,h2,h3,?_⟩,h.grown⟩
 rw [show (j+1)*7=j*7+7 by omega,←List.drop_drop,h4,List.drop_drop]
theorem DelE.put {arr:Array Value} (h:DelE I gb cur w0 F j X) (h1:X.heap[gb]? =some (.cells arr 35 (0,0))) (x:Ent) (cs:List Value) (hcs:tEnt.rd I cs x) (hF:F.length≤j) (hj:j*7+7≤cur.size):
 DelE I gb cur w0 (F++ [x]) (j+1) (X.setRow gb (over arr (F.length*7) cs)):=by
 obtain ⟨arr',h1',h2,h3,h4⟩:=h.row_
 rw [h1] at h1'
 cases h1'
 have hcl:cs.length=7:=tEnt.len hcs
 refine ⟨⟨_,setRow_heap _ _ _ _ _ _ h1,by rw [Xa8 _ _ _ (by omega),h2],?_,?_⟩,Xbi h.grown Xas⟩
 ·rw [List.length_append,List.length_singleton,show (F.length+1)*7=F.length*7+cs.length by omega,Xg0 _ _ _ (by omega)]
  exact h3.append (LiesL.one hcs)
 ·rw [Xqi _ _ _ _ (by omega) (by omega),show (j+1)*7=j*7+7 by omega,←List.drop_drop,h4,List.drop_drop]
theorem DelE.cell (h:DelE I gb cur w0 F j X) (q:Nat) (hq:j*7≤q):X.cell? ⟨gb,q,none⟩=cur[q]? :=by
 obtain ⟨arr,h1,h2,h3,h4⟩:=h.row_
 rw [cell_of_row X gb q _ _ _ h1,←Array.getElem?_toList,←Array.getElem?_toList]
 have e1:=congrArg (fun L=>L[q-j*7]?) h4
 simp only [List.getElem?_drop] at e1
 rwa [show j*7+(q-j*7)=q by omega] at e1
end
theorem Xth:∀w,(zeroValue 35).run Tryz.prog w= .ok (.agg zeroRow) w:=Tryz.zeroValue35
theorem Xk6 (n:Nat):∀u∈(Builtin.zeroCells (Value.agg zeroRow).cells n).toList,u.oneCell'=true:=by
 intro u hu
 simp only [Builtin.zeroCells,Value.cells] at hu
 rw [Array.mem_toList_iff,Array.mem_map] at hu
 obtain ⟨i,_,rfl⟩:=hu
 have h7:i%zeroRow.size<7:=Nat.mod_lt _ (by decide)
 rcases (show i%zeroRow.size=0∨i%zeroRow.size=1∨i%zeroRow.size=2∨i%zeroRow.size=3∨i%zeroRow.size=4∨i%zeroRow.size=5∨i%zeroRow.size=6 by omega) with h|h|h|h|h|h|h<;>rw [h]<;>rfl
set_option maxRecDepth 100000 in
set_option maxHeartbeats 2000000 in
theorem Xdo (I:IH) (B:Nat) (v:Value) (l:List Ent) (w:World) (hv:OwnS tEnt 35 I w B v l) (hn:l.length≤1000000) (g:Nat) (cb:Array Value) (p:Ent→Bool) (hw:Ok I w) (hI:∀b,B≤b→I b=none) (_hB:B≤w.heap.size) (eg:∀args w,(callFunc g args).run Tryz.prog w= .ok (.enter g args) w) (hp:PredE g cb l p (fun W=>w.grownBy W v.ownBlock)):
 Calls Tryz.prog 197 #[v,.func (.func g) #[] cb] w fun e w'=> ∃v',e= .returned v'∧OwnS tEnt 35 I w' B v' (l.filter fun x=> !(p x))∧w.grownBy w' v.ownBlock:=by
 obtain ⟨I',hI1,hI2,hI3,hI4⟩:=hv.freeze hw hI
 have hpa:PredE g cb l p (Below w.heap.size w):=fun x hx a1 a2 c1 c2 W hW=>hp x hx a1 a2 c1 c2 W (Xdr hW (Qn _))
 have hlen:=hI3.len_le
 have Hp:=Qh hp
 have Hix:=Qh (Xeb I' v l hI3 g cb p w hI2 eg hpa)
 have Heg:=Qh eg
 have HI3:=Qh hI3
 have Hv:=Qh hv
 clear hp hpa eg hI3
 have hvs:∃ao cap,v= .slice ao l.length cap∧cap≤9223372036854775807:=by
  obtain ⟨ao,cap,e,_,hcm,_⟩:=id HI3.out
  exact ⟨ao,cap,e,by unfold maxLen at hcm;omega⟩
 obtain ⟨ao,cap,rfl,hcm⟩:=hvs
 rcases Xcd l p with ⟨i,hi,e1,e2,e3⟩|⟨e1,e2⟩
 ·have hrow:∃gb cur,ao=some ⟨gb,0,none⟩∧B≤gb∧w.heap[gb]? =some (.cells cur 35 (0,0))∧l.length≤cap∧cur.size=cap*7∧LiesL tEnt I (cur.toList.take (l.length*7)) l:=by
   obtain ⟨xs,⟨_,h1⟩,hL⟩:=Hv.out
   rcases h1 with ⟨_,h0⟩|⟨gb,cap',cur,e,r1,r2,r3,r4,r5,r6⟩
   ·omega
   ·cases e
    refine ⟨gb,cur,rfl,r1,r2,r3,r5,?_⟩
    have r6':cur.toList.take (l.length*7)=xs:=r6
    rw [r6'];exact hL
  obtain ⟨gb,cur,rfl,hBg,hcur,hlc,hcs,hL⟩:=hrow
  rw [e1] at Hix
  have hd1:((i:Int)== -1)=false:=by rw [beq_eq_false_iff_ne];omega
  have hF0:((l.take (i+1)).filter fun x=> !(p x))=l.take i:=by
   rw [List.take_succ_eq_append_getElem hi,List.filter_append]
   have:((l.take i).filter fun x=> !(p x))=l.take i:=List.filter_eq_self.2 fun x hx=>by
    cases hpx:p x with
    |false=>rfl
    |true=>rw [List.any_eq_true.2 ⟨x,hx,hpx⟩] at e3;exact absurd e3 (by simp)
   rw [this];simp [e2]
  have hcell:∀j (h:j<l.length),∃a1 a2 c1 c2,RdS tAt I (.slice a1 l[j].attrs.length c1) l[j].attrs∧RdS tXt I (.slice a2 l[j].exts.length c2) l[j].exts∧ ∀q u,(entCs l[j] (.slice a1 l[j].attrs.length c1) (.slice a2 l[j].exts.length c2))[q]? =some u→cur[j*7+q]? =some u:=by
   intro j hj
   obtain ⟨cs,⟨va,vx,hcs,h1,h2⟩,hc⟩:=hL.2 j hj
   obtain ⟨a1,c1,rfl,_,_,_⟩:=id h1
   obtain ⟨a2,c2,rfl,_,_,_⟩:=id h2
   refine ⟨a1,a2,c1,c2,h1,h2,fun q u hu=> ?_⟩
   have h3:=hc q u (by rw [hcs];exact hu)
   have hs:tEnt.size=7:=rfl
   rw [hs,List.getElem?_take] at h3
   split at h3
   ·rw [←Array.getElem?_toList];exact h3
   ·cases h3
  have Hcell:=Qh hcell
  have hm0:∀X,Below w.heap.size w X→DelE I gb cur w ((l.take (i+1)).filter fun x=> !(p x)) (i+1) X:=by
   intro X hX
   have hlt:gb<w.heap.size:=(Array.getElem?_eq_some_iff.1 hcur).1
   refine ⟨⟨cur,(hX.block _ hlt).trans hcur,rfl,?_,rfl⟩,Xdr hX (Qn _)⟩
   rw [hF0,List.length_take,Nat.min_eq_left (by omega)]
   have:=hL.take i
   have hs:tEnt.size=7:=rfl
   rwa [hs,List.take_take,Nat.min_eq_left (by omega)] at this
  have Hm0:=Qh hm0
  have hFl:((l.take (i+1)).filter fun x=> !(p x)).length=i:=by rw [hF0,List.length_take];omega
  have HFl:=Qh hFl
  have hi7:(Tryz.prog.info? 35).map (·.size)=some 7:=by kernel_rfl
  have Hi7:=Qh hi7
  clear e1 e2 e3 hF0 hcell hm0 hFl hL hcur hI4 hv hi7
  go_enter Tryz.func197,Tryz.ntmps197
  go_wp2_with fail
  refine Hix.out.mono ?_
  rintro e w1 ⟨rfl,hb1⟩
  have Hm1:=Qh (Hm0.out w1 hb1)
  clear hb1 Hm0
  go_wp2_with fail
  go_loopw [5,6] (fun s5 s6 X=> ∃(j:Nat) (F:List Ent),i+1≤j∧j≤l.length∧s6= .int .i64 j∧s5= .int .i64 F.length∧F.length<j∧F=((l.take j).filter fun x=> !(p x))∧DelE I gb cur w F j X) (fun _ j _=>l.length-(intOf j).toNat)
  case atStart=>exact ⟨i+1,_,Qn _,hi,by go_num,by rw [HFl.out],by rw [HFl.out];omega,rfl,Hm1.out⟩
  case round=>
   clear Hm1 HFl
   obtain ⟨j,F,hij,hjl,rfl,rfl,hFj,hF,hm⟩:=hrel
   have HF:=Qh hF
   have Hm:=Qh hm
   clear hF hm
   by_cases hlt:j<l.length
   ·obtain ⟨a1,a2,c1,c2,h1,h2,hc⟩:=Hcell.out j hlt
    obtain ⟨x,hlx⟩:∃x,l[j]=x:=⟨_,rfl⟩
    have hxm:x∈l:=by rw [←hlx];exact List.getElem_mem hlt
    rw [hlx] at h1 h2 hc
    have hc0:=(Hm.out.cell (j*7) (Qn _)).trans (hc 0 _ rfl)
    have hc1:=(Hm.out.cell (j*7+1) (by omega)).trans (hc 1 _ rfl)
    have hc2:=(Hm.out.cell (j*7+2) (by omega)).trans (hc 2 _ rfl)
    have hc3:=(Hm.out.cell (j*7+3) (by omega)).trans (hc 3 _ rfl)
    have hc4:=(Hm.out.cell (j*7+4) (by omega)).trans (hc 4 _ rfl)
    have hc5:=(Hm.out.cell (j*7+5) (by omega)).trans (hc 5 _ rfl)
    have hc6:=(Hm.out.cell (j*7+6) (by omega)).trans (hc 6 _ rfl)
    have H12:=Qh (show tEnt.rd I (entCs x (.slice a1 x.attrs.length c1) (.slice a2 x.exts.length c2)) x from ⟨_,_,rfl,h1,h2⟩)
    have Hst:=Qh (show ((l.take (j+1)).filter fun x=> !(p x))=F++(if p x then [] else [x]) by
     rw [List.take_succ_eq_append_getElem hlt,hlx,List.filter_append,←HF.out];cases h:p x<;>simp [h])
    have Hcall:=Qh (Hp.out x hxm a1 a2 c1 c2)
    clear hlx hc hxm h1 h2
    have eg:=Heg.out
    go_wp2_with fail
    have hmA:=Hm.out.pass ((Qb _ wr).alloc (Qn _) (.cells #[.int .i64 x.kind,S x.path,.slice a1 x.attrs.length c1,S x.target,.int .i64 x.size,S x.digest,.slice a2 x.exts.length c2] 35))
    refine (Hcall.out _ hmA.grown).mono ?_
    rintro e w4 ⟨rfl,hb4⟩
    obtain ⟨d0,d1,d2,d3,d4,d5,d6⟩:=entB rfl hb4
    have Hm4:=Qh (hmA.pass hb4)
    have hsz4:gb<w4.heap.size:=by
     obtain ⟨arr,h1,_⟩:=Hm4.out.row_
     exact (Array.getElem?_eq_some_iff.1 h1).1
    clear hmA hb4 hc0 hc1 hc2 hc3 hc4 hc5 hc6 eg
    cases hpx:p x
    ·have Hnx:=Qh (show F++ [x]=((l.take (j+1)).filter fun x=> !(p x)) by rw [Hst.out,hpx];simp)
     obtain ⟨arr,ha1,ha2,_⟩:=Hm4.out.row_
     have Ha1:=Qh ha1
     have hfit:F.length*7+7≤arr.size:=by omega
     have hFl:F.length<l.length:=by omega
     clear hpx ha1 ha2
     go_wp2_with (refine Xby rfl 35 _ _ rfl gb (F.length*7) (entCs x (.slice a1 x.attrs.length c1) (.slice a2 x.exts.length c2)) (by simp [Act.eval]) rfl arr 35 Ha1.out hfit Hi7.out (tEnt.one H12.out) ?_)
     go_roundw
     case rel=>exact ⟨j+1,F++ [x],by omega,by omega,by go_num,(by rw [List.length_append,List.length_singleton];go_num),(by rw [List.length_append,List.length_singleton];omega),Hnx.out,Hm4.out.put Ha1.out x _ H12.out (by omega) (by omega)⟩
     case measure=>simp [intOf];omega
    ·have Hnx:=Qh (show F=((l.take (j+1)).filter fun x=> !(p x)) by rw [Hst.out,hpx];simp)
     clear hpx
     go_wp2
     go_roundw
     case rel=>exact ⟨j+1,F,by omega,by omega,by go_num,rfl,by omega,Hnx.out,Hm4.out.next⟩
     case measure=>simp [intOf];omega
   ·have hje:j=l.length:=by omega
    have HF2:=Qh (show F=l.filter fun x=> !(p x) by rw [HF.out,List.take_of_length_le (by omega)])
    obtain ⟨arr,ha1,ha2,ha3,ha4⟩:=Hm.out.row_
    have hFlen:F.length<l.length:=by omega
    have hnc:¬F.length=cap:=by omega
    have hcl:=fun ty=>Xl8 (P:=Tryz.prog) wr 60 35 ty _ Tryz.underlying60 Xth gb (F.length*7) (l.length-F.length) (cap-F.length) (Xk6 _) (by omega) arr 35 ha1 (by show F.length*7+(l.length-F.length)*7≤arr.size;omega)
    have Harr:=Qh (show arr.size=cur.size∧LiesL tEnt I (arr.toList.take (F.length*7)) F from ⟨ha2,ha3⟩)
    have Ha1:=Qh ha1
    have hgr:=Hm.out.grown
    clear ha1 ha2 ha3 ha4 hje
    go_wp2_with fail
    go_ret
    have hzl:(Builtin.zeroCells zeroRow (l.length-F.length)).toList.length=(l.length-F.length)*7:=by rw [Array.length_toList,size_zeroCells];rfl
    obtain ⟨ha2,ha3⟩:=Harr.out
    have hal:arr.toList.length=cap*7:=by rw [Array.length_toList,ha2,hcs]
    rw [←HF2.out]
    refine ⟨_,rfl,⟨_,⟨ha3.1,.inr ⟨gb,cap,_,rfl,hBg,setRow_heap _ _ _ _ _ _ Ha1.out,by omega,by unfold maxLen;omega,?_,?_⟩⟩,ha3⟩,Xbi hgr Xas⟩
    ·rw [List.size_toArray,List.length_append,List.length_append,hzl,List.length_take,List.length_drop,hal]
     show min (F.length*7) (cap*7)+((l.length-F.length)*7+(cap*7-(F.length*7+(l.length-F.length)*7)))=cap*7
     omega
    ·show ((arr.toList.take (F.length*7)++_).toArray).toList.take (F.length*7)=arr.toList.take (F.length*7)
     rw [List.toList_toArray,List.take_append_of_le_length (by rw [List.length_take,hal];omega),List.take_take,Nat.min_self]
 ·rw [e1] at Hix
  have Hf:=Qh (show (l.filter fun x=> !(p x))=l from List.filter_eq_self.2 fun x hx=>by
   cases hpx:p x with
   |false=>rfl
   |true=>rw [List.any_eq_true.2 ⟨x,hx,hpx⟩] at e2;exact absurd e2 (by simp))
  clear e1 e2 hv hI4
  go_enter Tryz.func197,Tryz.ntmps197
  go_wp2_with fail
  refine Hix.out.mono ?_
  rintro e w1 ⟨rfl,hb1⟩
  go_wp2
  go_ret
  exact ⟨_,rfl,by rw [Hf.out];exact Hv.out.below hb1,Xdr hb1 (Qn _)⟩
end Go.Proofs.YtkipnpjagcfcpaaGreatDoor
