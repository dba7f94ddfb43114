/-
  Walks and laws that the claim's theorem uses: texts PeB, joined; comments out. Conditions: as each theorem says.
-/
import Derived.Test.YtmdfjnhfhidmhaaGreatDoorK08
set_option linter.all false
namespace Go.Proofs.YtmdfjnhfhidmhaaGreatDoor
open Go.RowKit
def contP (e:Ent):Int:=
 if e.size<0∨65536<e.size∨(e.kind≠1∧e.size≠0) then 2
 else if (e.kind=1∧e.digest.length≠32)∨(e.kind≠1∧e.digest≠ []) then 1
 else if xtsErr (e.kind==1) e.exts≠0 then xtsErr (e.kind==1) e.exts
 else if xtSum e.exts≠e.size then 1 else 0
theorem Xj1 (l:List Xt) (k:Nat):xtSum l=xtSum (l.take k)+xtSum (l.drop k):=by
 conv=>lhs;rw [←List.take_append_drop k l]
 simp only [xtSum,List.map_append,List.sum_append]
theorem Xp1 {l:List Xt} (h:∀x∈l,xtBad x=false):0≤xtSum l:=(Xp2 l.length l rfl h).1
set_option maxRecDepth 100000 in
set_option maxHeartbeats 4000000 in
theorem Xm7 (I:IH) (x:Ent) (va vx:Value) (hva:RdS tAt I va x.attrs) (hvx:RdS tXt I vx x.exts) (hwf:x.Wf) (w:World) (hw:Ok I w):
 Calls Tryz.prog 133 #[entV x va vx] w fun e w'=>e= .returned (.int .i64 (contP x))∧Below w.heap.size w w':=by
 have hlx:=hvx.len_le
 obtain ⟨ao,cap,rfl,hcap,hcm,_⟩:=id hvx
 obtain ⟨ao2,cap2,rfl,_,_,_⟩:=id hva
 have Hvx:=Qh hvx
 have hs0:=hwf.s0
 have hs1:=hwf.s1
 have hd1:=hwf.digest
 clear hvx hva hwf
 have hB0:EntB (w.alloc (.cells #[.int .i64 x.kind,S x.path,.slice ao2 x.attrs.length cap2,S x.target,.int .i64 x.size,S x.digest,.slice ao x.exts.length cap] 81)) w.heap.size x (.slice ao2 x.attrs.length cap2) (.slice ao x.exts.length cap):=entB rfl (Qb _ _)
 have HB0:=Qh hB0
 clear hB0
 by_cases hn0:x.size<0
 case pos=>
  have Hn:=Qh (show contP x=2 by rw [contP,if_pos (.inl hn0)])
  by_cases hf:x.kind=1
  ·have f1:((x.kind:Int)==1)=true:=by simpa using hf
   clear hf
   go_enter Tryz.func133,Tryz.ntmps133
   go_wp2
   go_ret
   exact ⟨Xaj Hn.out.symm,(Qb _ _).alloc (Qn _) _⟩
  ·have f1:((x.kind:Int)==1)=false:=by simpa using hf
   clear hf
   go_enter Tryz.func133,Tryz.ntmps133
   go_wp2
   go_ret
   exact ⟨Xaj Hn.out.symm,(Qb _ _).alloc (Qn _) _⟩
 by_cases hf:x.kind=1
 ·have f1:((x.kind:Int)==1)=true:=by simpa using hf
  have f2:((x.kind:Int) != 1)=false:=by simpa using hf
  by_cases hn6:65536<x.size
  case pos=>
   have Hn:=Qh (show contP x=2 by rw [contP,if_pos (.inr (.inl hn6))])
   clear hf
   go_enter Tryz.func133,Tryz.ntmps133
   go_wp2
   go_ret
   exact ⟨Xaj Hn.out.symm,(Qb _ _).alloc (Qn _) _⟩
  by_cases hdl:x.digest.length=32
  case neg=>
   have Hn:=Qh (show contP x=1 by rw [contP,if_neg (by omega),if_pos (.inl ⟨hf,hdl⟩)])
   have z1:((x.digest.length:Int) != 32)=true:=by rw [bne_iff_ne];omega
   clear hf hdl
   go_enter Tryz.func133,Tryz.ntmps133
   go_wp2
   go_ret
   exact ⟨Xaj Hn.out.symm,(Qb _ _).alloc (Qn _) _⟩
  have z1:((x.digest.length:Int) != 32)=false:=by rw [hdl];rfl
  have Hc:=Qh (show contP x=if xtsErr true x.exts≠0 then xtsErr true x.exts else if xtSum x.exts≠x.size then 1 else 0 by
   rw [contP,if_neg (by omega),if_neg (by
    rintro (⟨_,h⟩|⟨h,_⟩)
    ·exact h hdl
    ·exact h hf),f1])
  have Hfk:=Qh hf
  clear hf hdl
  go_enter Tryz.func133,Tryz.ntmps133
  go_wp2_with fail
  go_loopw [32] (fun s32 wr=> ∃k:Nat,k≤x.exts.length∧s32= .int .i64 k∧xtsErr true (x.exts.drop k)=xtsErr true x.exts∧EntB wr w.heap.size x (.slice ao2 x.attrs.length cap2) (.slice ao x.exts.length cap)∧Below w.heap.size w wr∧w.heap.size<wr.heap.size) (fun i _=>x.exts.length-(intOf i).toNat)
  case atStart=>exact ⟨0,Nat.zero_le _,rfl,rfl,HB0.out,(Qb _ _).alloc (Qn _) _,by simp⟩
  case round=>
   clear HB0
   obtain ⟨k,hk,rfl,hr,hBw,hb,hsz⟩:=hrel
   have Hr:=Qh hr;clear hr
   have HBw:=Qh hBw
   obtain ⟨c0,c1,c2,c3,c4,c5,c6⟩:=hBw
   have hwr:Ok I wr:=hw.below (Qn _) hb
   by_cases hlt:k<x.exts.length
   ·obtain ⟨y,b,off,cap',hly,hvv,e0,e1,e2⟩:=xtAt Hvx.out hwr k hlt
    cases hvv
    have Hdr:=Qh (show x.exts.drop k=y::x.exts.drop (k+1) by rw [List.drop_eq_getElem_cons hlt,hly])
    have Hst:=Qh (show contP x=if (if xtBad y then 2 else xtsErr true (x.exts.drop (k+1)))≠0 then (if xtBad y then 2 else xtsErr true (x.exts.drop (k+1))) else if xtSum x.exts≠x.size then 1 else 0 by
     rw [Hc.out,←Hr.out,Hdr.out,Xc8])
    clear hly
    by_cases h1:y.s<0
    ·have Hbad:=Qh (show contP x=2 by rw [Hst.out,if_pos (show xtBad y=true by unfold xtBad;simp;omega)];rfl)
     go_wp2
     go_ret
     exact ⟨Xaj Hbad.out.symm,hb.alloc hb.size _⟩
    by_cases h2:255<y.s
    ·have Hbad:=Qh (show contP x=2 by rw [Hst.out,if_pos (show xtBad y=true by unfold xtBad;simp;omega)];rfl)
     go_wp2
     go_ret
     exact ⟨Xaj Hbad.out.symm,hb.alloc hb.size _⟩
    by_cases h5:y.n<1
    ·have Hbad:=Qh (show contP x=2 by rw [Hst.out,if_pos (show xtBad y=true by unfold xtBad;simp;omega)];rfl)
     go_wp2
     go_ret
     exact ⟨Xaj Hbad.out.symm,hb.alloc hb.size _⟩
    by_cases h6:65536<y.n
    ·have Hbad:=Qh (show contP x=2 by rw [Hst.out,if_pos (show xtBad y=true by unfold xtBad;simp;omega)];rfl)
     go_wp2
     go_ret
     exact ⟨Xaj Hbad.out.symm,hb.alloc hb.size _⟩
    by_cases h3:y.o<0
    ·have Hbad:=Qh (show contP x=2 by rw [Hst.out,if_pos (show xtBad y=true by unfold xtBad;simp;omega)];rfl)
     go_wp2
     go_ret
     exact ⟨Xaj Hbad.out.symm,hb.alloc hb.size _⟩
    by_cases h4:2147483647<y.o
    ·have Hbad:=Qh (show contP x=2 by rw [Hst.out,if_pos (show xtBad y=true by unfold xtBad;simp;omega)];rfl)
     go_wp2
     go_ret
     exact ⟨Xaj Hbad.out.symm,hb.alloc hb.size _⟩
    by_cases h7:y.s=0
    ·have g7:(y.s==0)=true:=by simpa using h7
     by_cases h8:y.o=0
     ·have g8:(y.o != 0)=false:=by simpa using h8
      have Hnx:=Qh (show xtsErr true (x.exts.drop (k+1))=xtsErr true x.exts by
       rw [←Hr.out,Hdr.out,Xc8,if_neg (show ¬xtBad y=true by unfold xtBad;simp;omega)])
      go_wp2
      go_roundw
      case rel=>exact ⟨k+1,by omega,by go_num,Hnx.out,HBw.out.past _,hb.alloc hb.size _,by simp;omega⟩
      case measure=>simp [intOf];omega
     ·have g8:(y.o != 0)=true:=by simpa using h8
      have Hbad:=Qh (show contP x=2 by rw [Hst.out,if_pos (show xtBad y=true by unfold xtBad;simp;omega)];rfl)
      go_wp2
      go_ret
      exact ⟨Xaj Hbad.out.symm,hb.alloc hb.size _⟩
    ·have g7:(y.s==0)=false:=by simpa using h7
     have Hnx:=Qh (show xtsErr true (x.exts.drop (k+1))=xtsErr true x.exts by
      rw [←Hr.out,Hdr.out,Xc8,if_neg (show ¬xtBad y=true by unfold xtBad;simp;omega)])
     go_wp2
     go_roundw
     case rel=>exact ⟨k+1,by omega,by go_num,Hnx.out,HBw.out.past _,hb.alloc hb.size _,by simp;omega⟩
     case measure=>simp [intOf];omega
   ·have Hx0:=Qh (show xtsErr true x.exts=0 by rw [←Hr.out,List.drop_of_length_le (by omega)];rfl)
    have Hgood:=Qh (Xh6 _ Hx0.out)
    have Hc2:=Qh (show contP x=if xtSum x.exts≠x.size then 1 else 0 by rw [Hc.out,Hx0.out];rfl)
    go_wp2_with fail
    go_loopw [5,81] (fun s5 s81 wq=> ∃(j:Nat) (r:Int),j≤x.exts.length∧s81= .int .i64 j∧s5= .int .i64 r∧0≤r∧r≤65536∧r=x.size-xtSum (x.exts.take j)∧Below w.heap.size w wq) (fun _ i _=>x.exts.length-(intOf i).toNat)
    case atStart=>exact ⟨0,x.size,Nat.zero_le _,rfl,rfl,by omega,by omega,by simp [xtSum],hb⟩
    case round=>
     clear c0 c1 c2 c3 c4 c5 c6 hwr hb
     obtain ⟨j,r,hj,rfl,rfl,hr0,hr6,hrr,hb⟩:=hrel
     have Hrr:=Qh hrr;clear hrr
     have hwr:Ok I wr:=hw.below (Qn _) hb
     by_cases hlt2:j<x.exts.length
     ·obtain ⟨y,b,off,cap',hly,hvv,e0,e1,e2⟩:=xtAt Hvx.out hwr j hlt2
      cases hvv
      have hym:xtBad y=false:=Hgood.out y (by rw [←hly];exact List.getElem_mem hlt2)
      have hyl:=Xh7 hym
      have Htk:=Qh (show xtSum (x.exts.take (j+1))=xtSum (x.exts.take j)+y.n by rw [List.take_succ_eq_append_getElem hlt2,hly,Xgl])
      clear hly hym
      by_cases hgt:r<y.n
      ·have Hn:=Qh (show contP x=1 by
        rw [Hc2.out,if_pos]
        have h1:=Xj1 x.exts (j+1)
        have h2:=Xp1 (l:=x.exts.drop (j+1)) fun z hz=>Hgood.out z (List.mem_of_mem_drop hz)
        have h3:=Htk.out
        have h4:=Hrr.out
        omega)
       go_wp2
       go_ret
       exact ⟨Xaj Hn.out.symm,hb.alloc hb.size _⟩
      ·have hw1:IntKind.i64.wrap (r-y.n)=r-y.n:=IntWalk.i64_in _ (by omega)
       go_wp2
       go_roundw
       case rel=>exact ⟨j+1,r-y.n,by omega,by go_num,by go_num,by omega,by omega,(by have h3:=Htk.out;have h4:=Hrr.out;omega),hb.alloc hb.size _⟩
       case measure=>simp [intOf];omega
     ·have hall:x.exts.take j=x.exts:=List.take_of_length_le (by omega)
      rw [hall] at Hrr
      clear hall
      by_cases hz:r=0
      ·have z0:(r != 0)=false:=by simpa using hz
       have Hn:=Qh (show contP x=0 by rw [Hc2.out,if_neg];have:=Hrr.out;omega)
       clear hz
       go_wp2
       go_ret
       exact ⟨Xaj Hn.out.symm,hb⟩
      ·have z0:(r != 0)=true:=by simpa using hz
       have Hn:=Qh (show contP x=1 by rw [Hc2.out,if_pos];have:=Hrr.out;omega)
       clear hz
       go_wp2
       go_ret
       exact ⟨Xaj Hn.out.symm,hb⟩
 ·have f1:((x.kind:Int)==1)=false:=by simpa using hf
  have f2:((x.kind:Int) != 1)=true:=by simpa using hf
  by_cases hz:x.size=0
  case neg=>
   have Hn:=Qh (show contP x=2 by rw [contP,if_pos (.inr (.inr ⟨hf,hz⟩))])
   have hgt:0<x.size:=by omega
   clear hf hz
   go_enter Tryz.func133,Tryz.ntmps133
   go_wp2
   go_ret
   exact ⟨Xaj Hn.out.symm,(Qb _ _).alloc (Qn _) _⟩
  have hsz1:x.size≤0:=by omega
  by_cases hdl:x.digest.length=0
  case neg=>
   have Hn:=Qh (show contP x=1 by rw [contP,if_neg (by omega),if_pos (.inr ⟨hf,fun e=>hdl (by rw [e];rfl)⟩)])
   have z1:((x.digest.length:Int) != 0)=true:=by rw [bne_iff_ne];omega
   clear hf hdl
   go_enter Tryz.func133,Tryz.ntmps133
   go_wp2
   go_ret
   exact ⟨Xaj Hn.out.symm,(Qb _ _).alloc (Qn _) _⟩
  have z1:((x.digest.length:Int) != 0)=false:=by rw [hdl];rfl
  have Hc:=Qh (show contP x=if xtsErr false x.exts≠0 then xtsErr false x.exts else if xtSum x.exts≠x.size then 1 else 0 by
   rw [contP,if_neg (by omega),if_neg (by
    rintro (⟨h,_⟩|⟨_,h⟩)
    ·exact hf h
    ·exact h (List.eq_nil_of_length_eq_zero hdl)),f1])
  have Hz:=Qh hz
  clear hf hdl hz
  by_cases hl0:0<x.exts.length
  ·obtain ⟨y,b,off,cap',hly,hvv,e0,e1,e2⟩:=xtAt Hvx.out (hw.alloc (.cells #[.int .i64 x.kind,S x.path,.slice ao2 x.attrs.length cap2,S x.target,.int .i64 x.size,S x.digest,.slice ao x.exts.length cap] 81)) 0 hl0
   cases hvv
   have hxe:x.exts=y::x.exts.drop 1:=by rw [←hly,←List.drop_eq_getElem_cons hl0];rfl
   have Hn:=Qh (show contP x=1 by rw [Hc.out,hxe];rfl)
   rw [Nat.zero_mul,Nat.add_zero] at e0 e1 e2
   clear hly hxe
   go_enter Tryz.func133,Tryz.ntmps133
   go_wp2_with fail
   go_loopw [32] (fun s32 wr=>s32= .int .i64 0∧w.alloc (.cells #[.int .i64 x.kind,S x.path,.slice ao2 x.attrs.length cap2,S x.target,.int .i64 x.size,S x.digest,.slice (some ⟨b,off,none⟩) x.exts.length cap] 81)=wr) (fun _ _=>0)
   case atStart=>exact ⟨rfl,rfl⟩
   case round=>
    obtain ⟨rfl,hwr⟩:=hrel
    subst hwr
    go_wp2
    go_ret
    exact ⟨Xaj Hn.out.symm,((Qb _ _).alloc (Qn _) _).alloc (by simp) _⟩
  ·have Hx0:=Qh (show x.exts= [] from List.eq_nil_of_length_eq_zero (by omega))
   have Hn:=Qh (show contP x=0 by rw [Hc.out,Hx0.out,Hz.out];rfl)
   have z0:(x.size != 0)=false:=by rw [Hz.out];rfl
   go_enter Tryz.func133,Tryz.ntmps133
   go_wp2_with fail
   go_loopw [32] (fun s32 wr=>s32= .int .i64 0∧w.alloc (.cells #[.int .i64 x.kind,S x.path,.slice ao2 x.attrs.length cap2,S x.target,.int .i64 x.size,S x.digest,.slice ao x.exts.length cap] 81)=wr) (fun _ _=>0)
   case atStart=>exact ⟨rfl,rfl⟩
   case round=>
    obtain ⟨rfl,hwr⟩:=hrel
    subst hwr
    go_wp2_with fail
    go_loopw [5,81] (fun s5 s81 wr=>s5= .int .i64 x.size∧s81= .int .i64 0∧w.alloc (.cells #[.int .i64 x.kind,S x.path,.slice ao2 x.attrs.length cap2,S x.target,.int .i64 x.size,S x.digest,.slice ao x.exts.length cap] 81)=wr) (fun _ _ _=>0)
    case atStart=>exact ⟨rfl,rfl,rfl⟩
    case round=>
     obtain ⟨rfl,rfl,hwr⟩:=hrel
     subst hwr
     go_wp2
     go_ret
     exact ⟨Xaj Hn.out.symm,(Qb _ _).alloc (Qn _) _⟩
end Go.Proofs.YtmdfjnhfhidmhaaGreatDoor
