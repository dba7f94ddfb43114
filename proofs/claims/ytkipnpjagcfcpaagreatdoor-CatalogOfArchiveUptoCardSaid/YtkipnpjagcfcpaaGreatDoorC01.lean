/-
  Walks and laws that the claim's theorem uses: texts EnD EnE EnF EnG EnH ShP ShQ PbA PlT RhP Trl DgP BmA, joined; comments out. Conditions: as each theorem says.
-/
import Derived.Test.YtkipnpjagcfcpaaGreatDoorC00
import Derived.Deep.DeepCutAuto
import Derived.Shelf.Strings.OnBuilder
import Derived.Shelf.Small.Strs
import Derived.Shelf.GgClosure.StringsIndexFuncTop
import Derived.Shelf.Strings.Split
import Derived.Shelf.Slices.Equal
import Derived.Shelf.Slices.Empties2
import Derived.Test.YtkipnpjagcfcpaaGreatDoorProg
import Derived.Shelf.LaysM
import Derived.Shelf.LaysC
import Derived.Shelf.Strconv.Itoa3
import Derived.Shelf.Strconv.AtoiAll
import Derived.Shelf.Strconv.ErrVarAll
import Derived.Lib.ItoaNum
import Derived.BigRegion
import Derived.OpenShut
import Derived.DataShut
set_option linter.all false
namespace Go.Proofs.YtkipnpjagcfcpaaGreatDoor
open Go.RowKit
theorem Xde {l:Bytes} (h:l≠ []):(l== [])=false∧l.isEmpty=false∧(!l.isEmpty)=true∧(l != [])=true:=by
 cases l with
 |nil=>exact absurd rfl h
 |cons a l=>exact ⟨rfl,rfl,rfl,rfl⟩
theorem Xdf {l:Bytes} (h:l= []):(l== [])=true∧l.isEmpty=true∧(!l.isEmpty)=false∧(l != [])=false:=by
 subst h;exact ⟨rfl,rfl,rfl,rfl⟩
theorem Xbx (x:Xt) (l:List Xt):xtsErr true (x::l)=if xtBad x then 2 else xtsErr true l:=rfl
set_option maxRecDepth 100000 in
set_option maxHeartbeats 4000000 in
theorem Xc6 (I:IH) (x:Ent) (va vx:Value) (hva:RdS tAt I va x.attrs) (hvx:RdS tXt I vx x.exts) (hwf:x.Wf) (w:World) (hw:Ok I w):
 Calls Tryz.prog 65 #[entV x va vx] w fun e w'=>e= .returned (.int .i64 (entErrR x))∧Below w.heap.size w w':=by
 have hlx:=hvx.len_le
 have hla:=hva.len_le
 obtain ⟨ao,cap,rfl,hcap,hcm,_⟩:=id hvx
 obtain ⟨ao2,cap2,rfl,hcap2,hcm2,_⟩:=id hva
 have Hvx:=Qh hvx
 have Hva:=Qh hva
 clear hvx hva
 have Hnm:=Qh (fun w=>Xh8 x.kind w)
 have Hpc:=Qh (fun w hw=>Xmc I x.path w hw)
 have Hac:=Qh (fun w hw=>Xmb I _ x.attrs Hva.out hwf.attrs w hw)
 have Htg:=Qh (fun w=>Xkb x hwf.target (.slice ao2 x.attrs.length cap2) (.slice ao x.exts.length cap) w)
 have hs0:=hwf.s0
 have hs1:=hwf.s1
 have hp1:=hwf.path
 have hd1:=hwf.digest
 have hxw:=Qh hwf.exts
 clear hwf
 have hnn:=nameP_nil (k:=x.kind)
 by_cases hk:x.kind<1∨6<x.kind
 case pos=>
  have Hn:=Qh (show entErrR x=10 by rw [entErrR,if_pos hk])
  rw [hnn.2 hk] at Hnm
  clear hnn hk
  go_enter Tryz.func65,Tryz.ntmps65
  go_wp2_with fail
  refine (Hnm.out _).mono ?_
  rintro e w1 ⟨rfl,rfl⟩
  go_wp2
  go_ret
  exact ⟨Xag Hn.out.symm,(Qb _ _).alloc (Qn _) _⟩
 have He:=Qh (show entErrR x=_ by rw [entErrR,if_neg hk])
 obtain ⟨nm,hnm⟩:∃s,nameP x.kind=s:=⟨_,rfl⟩
 have hnz:nm≠ []:=fun e=>hk (hnn.1 (by rw [hnm,e]))
 rw [hnm] at Hnm
 have n1:(nm== [])=false:=by simpa using hnz
 have n2:nm.isEmpty=false:=by cases nm<;>simp_all
 have n3:(!nm.isEmpty)=true:=by rw [n2];rfl
 clear hnn hnm hnz
 by_cases hpe:pathErr x.path=0
 case neg=>
  obtain ⟨q,hq⟩:∃q,pathErr x.path=q:=⟨_,rfl⟩
  have hn:(q != 0)=true:=by rw [←hq];simpa using hpe
  have Hn:=Qh (show entErrR x=q by rw [He.out,if_pos hpe,hq])
  rw [hq] at Hpc
  clear hq hpe
  go_enter Tryz.func65,Tryz.ntmps65
  go_wp2_with fail
  refine (Hnm.out _).mono ?_
  rintro e w0 ⟨rfl,rfl⟩
  go_wp2_with fail
  refine (Hpc.out _ (hw.alloc _)).mono ?_
  rintro e w1 ⟨rfl,hb1⟩
  have hb1':Below w.heap.size w w1:=((Qb _ _).alloc (Qn _) _).trans (hb1.mono (by simp))
  have hsz1:w.heap.size<w1.heap.size:=by have:=hb1.size;simp at this;omega
  have hok1:Ok I w1:=(hw.alloc _).below (Qn _) hb1
  obtain ⟨c0,c1,c2,c3,c4,c5,c6⟩:=entB rfl hb1
  clear hb1
  go_wp2
  go_ret
  exact ⟨Xag Hn.out.symm,hb1'⟩
 replace He:=Qh (show entErrR x=_ by rw [He.out,if_neg (show ¬pathErr x.path≠0 by omega)])
 rw [hpe] at Hpc
 clear hpe
 by_cases he5:x.path= []∧x.kind<5
 case pos=>
  have Hn:=Qh (show entErrR x=1 by rw [He.out,if_pos he5])
  have p1:(x.path== [])=true:=by rw [he5.1];rfl
  have p2:x.path.isEmpty=true:=by rw [he5.1];rfl
  have p3:(!x.path.isEmpty)=false:=by rw [he5.1];rfl
  have hk5:=he5.2
  clear he5
  go_enter Tryz.func65,Tryz.ntmps65
  go_wp2_with fail
  refine (Hnm.out _).mono ?_
  rintro e w0 ⟨rfl,rfl⟩
  go_wp2_with fail
  refine (Hpc.out _ (hw.alloc _)).mono ?_
  rintro e w1 ⟨rfl,hb1⟩
  have hb1':Below w.heap.size w w1:=((Qb _ _).alloc (Qn _) _).trans (hb1.mono (by simp))
  have hsz1:w.heap.size<w1.heap.size:=by have:=hb1.size;simp at this;omega
  have hok1:Ok I w1:=(hw.alloc _).below (Qn _) hb1
  obtain ⟨c0,c1,c2,c3,c4,c5,c6⟩:=entB rfl hb1
  clear hb1
  go_wp2
  go_ret
  exact ⟨Xag Hn.out.symm,hb1'⟩
 replace He:=Qh (show entErrR x=_ by rw [He.out,if_neg he5])
 have hpp:((x.path== [])=true∧x.path.isEmpty=true∧(!x.path.isEmpty)=false∧5≤x.kind)∨((x.path== [])=false∧x.path.isEmpty=false∧(!x.path.isEmpty)=true):=by
  by_cases h:x.path= []
  ·left;exact ⟨by rw [h];rfl,by rw [h];rfl,by rw [h];rfl,Int.not_lt.1 fun h2=>he5 ⟨h,h2⟩⟩
  ·right
   have h2:x.path.isEmpty=false:=by cases hp:x.path<;>simp_all
   exact ⟨by simpa using h,h2,by rw [h2];rfl⟩
 clear he5
 go_enter Tryz.func65,Tryz.ntmps65
 go_wp2_with fail
 refine (Hnm.out _).mono ?_
 rintro e w0 ⟨rfl,rfl⟩
 go_wp2_with fail
 refine (Hpc.out _ (hw.alloc _)).mono ?_
 rintro e w1 ⟨rfl,hb1⟩
 have hb1':Below w.heap.size w w1:=((Qb _ _).alloc (Qn _) _).trans (hb1.mono (by simp))
 have hsz1:w.heap.size<w1.heap.size:=by have:=hb1.size;simp at this;omega
 have hok1:Ok I w1:=(hw.alloc _).below (Qn _) hb1
 obtain ⟨c0,c1,c2,c3,c4,c5,c6⟩:=entB rfl hb1
 clear hb1
 clear Hnm Hpc n1 n2 n3
 go_upto_region 6 with fail
 go_cut [26] (fun s26 wx=>s26= .bool false∧w1=wx)
 case first=>
  rcases hpp with ⟨p1,p2,p3,p4⟩|⟨p1,p2,p3⟩
  all_goals
   go_wp2_with fail
   go_meet
   exact ⟨(by first|rfl|(congr 1;exact Qf (by omega))),rfl⟩
 case rest=>
  obtain ⟨rfl,hcut⟩:=hcut
  subst hcut
  clear hpp
  go_wp2_with fail
  refine (Hac.out _ hok1).mono ?_
  rintro e w2 ⟨rfl,hb2⟩
  have hb2':=hb1'.trans (hb2.mono (Nat.le_of_lt hsz1))
  have hsz2:w.heap.size<w2.heap.size:=by have:=hb2.size;omega
  have hok2:Ok I w2:=hok1.below (Qn _) hb2
  obtain ⟨c0,c1,c2,c3,c4,c5,c6⟩:=EntB.thru (⟨c0,c1,c2,c3,c4,c5,c6⟩:EntB w1 w.heap.size x _ _) hb2
  clear hb2 hb1' hsz1 hok1
  by_cases hca:chk x.attrs=0
  case neg=>
   obtain ⟨q,hq⟩:∃q,chk x.attrs=q:=⟨_,rfl⟩
   have hn:(q != 0)=true:=by rw [←hq];simpa using hca
   have Hn:=Qh (show entErrR x=q by rw [He.out,if_pos hca,hq])
   rw [hq]
   clear hq hca
   go_wp2
   go_ret
   exact ⟨Xag Hn.out.symm,hb2'⟩
  replace He:=Qh (show entErrR x=_ by rw [He.out,if_neg (show ¬chk x.attrs≠0 by omega)])
  rw [hca]
  clear hca Hac
  go_upto_region 11 with fail
  go_cut [46] (fun s46 wx=> ∃w3,w3=wx∧(s46= .bool true∧entErrR x=1∨s46= .bool false∧ ¬((x.attrs≠ []∧3<x.kind)∨targetOk x=false))∧Below w2.heap.size w2 w3)
  case first=>
   have hmain:x.attrs.length<1∨(0<x.attrs.length∧3<x.kind)∨(0<x.attrs.length∧x.kind≤3):=by omega
   rcases hmain with ha|⟨ha,hk3⟩|⟨ha,hk3⟩
   ·have d0:decide (0<x.attrs.length)=false:=Qf (by omega)
    have Ha0:=Qh (show x.attrs= [] from List.eq_nil_of_length_eq_zero (by omega))
    go_wp2_with fail
    refine (Htg.out _).mono ?_
    rintro e w3 ⟨rfl,hb3⟩
    cases htg:targetOk x
    ·have Hn:=Qh (show entErrR x=1 by rw [He.out,if_pos (.inr htg)])
     clear htg
     go_wp2_with fail
     go_meet
     exact ⟨_,rfl,.inl ⟨rfl,Hn.out⟩,hb3⟩
    ·go_wp2_with fail
     go_meet
     refine ⟨_,rfl,.inr ⟨(by first|rfl|(congr 1;exact Qf (by omega))),?_⟩,hb3⟩
     rintro (⟨h1,h2⟩|h1)
     ·first
       |exact h1 Ha0.out
       |omega
     ·rw [htg] at h1;exact absurd h1 (by simp)
   ·have d0:decide (0<x.attrs.length)=true:=Qt ha
    have Hn:=Qh (show entErrR x=1 by rw [He.out,if_pos (.inl ⟨by intro e;rw [e] at ha;simp at ha,hk3⟩)])
    go_wp2_with fail
    go_meet
    exact ⟨_,rfl,.inl ⟨(by first|rfl|(congr 1;exact Qt (by omega))),Hn.out⟩,Qb _ _⟩
   ·have d0:decide (0<x.attrs.length)=true:=Qt ha
    go_wp2_with fail
    refine (Htg.out _).mono ?_
    rintro e w3 ⟨rfl,hb3⟩
    cases htg:targetOk x
    ·have Hn:=Qh (show entErrR x=1 by rw [He.out,if_pos (.inr htg)])
     clear htg
     go_wp2_with fail
     go_meet
     exact ⟨_,rfl,.inl ⟨rfl,Hn.out⟩,hb3⟩
    ·go_wp2_with fail
     go_meet
     refine ⟨_,rfl,.inr ⟨(by first|rfl|(congr 1;exact Qf (by omega))),?_⟩,hb3⟩
     rintro (⟨h1,h2⟩|h1)
     ·first
       |exact h1 Ha0.out
       |omega
     ·rw [htg] at h1;exact absurd h1 (by simp)
  case rest=>
   obtain ⟨w3,hw3,htt,hb3⟩:=hcut
   subst hw3
   have hb3':=hb2'.trans (hb3.mono (Nat.le_of_lt hsz2))
   have hsz3:w.heap.size<w3.heap.size:=by have:=hb3.size;omega
   have hok3:Ok I w3:=hok2.below (Qn _) hb3
   obtain ⟨c0,c1,c2,c3,c4,c5,c6⟩:=EntB.thru (⟨c0,c1,c2,c3,c4,c5,c6⟩:EntB w2 w.heap.size x _ _) hb3
   clear hb3 hb2' hsz2 hok2 Htg
   rcases htt with ⟨rfl,hn⟩|⟨rfl,htt⟩
   ·have Hn:=Qh hn
    clear hn
    go_wp2
    go_ret
    exact ⟨Xag Hn.out.symm,hb3'⟩
   replace He:=Qh (show entErrR x=_ by rw [He.out,if_neg htt])
   clear htt
   by_cases hf:x.kind=1
   ·have f1:((x.kind:Int)==1)=true:=by simpa using hf
    go_upto_region 14 with fail
    go_cut [66] (fun s66 wx=>w3=wx∧(s66= .bool true∧entErrR x=2∨s66= .bool false∧ ¬(x.size<0∨65536<x.size∨(x.kind≠1∧x.size≠0))))
    case first=>
     have hmain:x.size<0∨65536<x.size∨(0≤x.size∧x.size≤65536∧x.kind≠1∧x.size≠0)∨(0≤x.size∧x.size≤65536∧(x.kind=1∨x.size=0)):=by omega
     rcases hmain with h|h|⟨h,h',h2,h3⟩|⟨h,h',h2⟩
     ·have Hn:=Qh (show entErrR x=2 by rw [He.out,if_pos (by omega)])
      clear hf
      go_wp2_with fail
      go_meet
      exact ⟨rfl,.inl ⟨(by first|rfl|(congr 1;simp;omega)),Hn.out⟩⟩
     ·have Hn:=Qh (show entErrR x=2 by rw [He.out,if_pos (by omega)])
      clear hf
      go_wp2_with fail
      go_meet
      exact ⟨rfl,.inl ⟨(by first|rfl|(congr 1;simp;omega)),Hn.out⟩⟩
     ·first
      |exact absurd hf h2
      |(have Hn:=Qh (show entErrR x=2 by rw [He.out,if_pos (by omega)])
        have g1:(x.size != 0)=true:=by simpa using h3
        clear hf h2 h3
        go_wp2_with fail
        go_meet
        exact ⟨rfl,.inl ⟨(by first|rfl|(congr 1;simp;omega)),Hn.out⟩⟩)
     ·have Hn:=Qh (show ¬(x.size<0∨65536<x.size∨(x.kind≠1∧x.size≠0)) by omega)
      have g2:x.kind=1∨(x.size != 0)=false:=h2.imp id (fun e=>by simp [e])
      rcases g2 with g2|g2
      all_goals
       first
       |exact absurd g2 hf
       |(clear hf h2
         go_wp2_with fail
         go_meet
         exact ⟨rfl,.inr ⟨(by first|rfl|(congr 1;simp;omega)),Hn.out⟩⟩)
    case rest=>
     obtain ⟨hw3,htt⟩:=hcut
     subst hw3
     rcases htt with ⟨rfl,hn⟩|⟨rfl,htt⟩
     ·have Hn:=Qh hn
      clear hn
      go_wp2
      go_ret
      exact ⟨Xag Hn.out.symm,hb3'⟩
     replace He:=Qh (show entErrR x=_ by rw [He.out,if_neg htt])
     have Hsz:=Qh (show 0≤x.size∧x.size≤65536∧(x.kind=1∨x.size=0) by omega)
     clear htt
     go_upto_region 16 with fail
     go_cut [82] (fun s82 wx=>w3=wx∧(s82= .bool true∧entErrR x=1∨s82= .bool false∧ ¬((x.kind=1∧x.digest.length≠32)∨(x.kind≠1∧x.digest≠ []))))
     case first=>
      by_cases hbad:(x.kind=1∧x.digest.length≠32)∨(x.kind≠1∧x.digest≠ [])
      ·have Hn:=Qh (show entErrR x=1 by rw [He.out,if_pos hbad])
       have hz:(((x.digest.length:Int) != 32)=true∧x.kind=1)∨(((x.digest== [])=false∧x.digest.isEmpty=false∧(!x.digest.isEmpty)=true∧(x.digest != [])=true)∧x.kind≠1):=by
        rcases hbad with ⟨h1,h2⟩|⟨h1,h2⟩
        ·left;exact ⟨by rw [bne_iff_ne];omega,h1⟩
        ·right
         exact ⟨Xde h2,h1⟩
       clear hbad
       rcases hz with ⟨z1,z2⟩|⟨⟨z1,z3,z4,z5⟩,z2⟩
       all_goals
        first
        |exact absurd z2 hf
        |exact absurd hf z2
        |(clear hf z2
          go_wp2_with fail
          go_meet
          exact ⟨rfl,.inl ⟨(by first|rfl|(congr 1;simp;omega)),Hn.out⟩⟩)
      ·have hz:(((x.digest.length:Int) != 32)=false∧x.kind=1)∨(((x.digest== [])=true∧x.digest.isEmpty=true∧(!x.digest.isEmpty)=false∧(x.digest != [])=false)∧x.kind≠1):=by
        by_cases h1:x.kind=1
        ·left
         have h2:x.digest.length=32:=Classical.byContradiction fun h=>hbad (.inl ⟨h1,h⟩)
         exact ⟨by rw [h2];rfl,h1⟩
        ·right
         exact ⟨Xdf (Classical.byContradiction fun h=>hbad (.inr ⟨h1,h⟩)),h1⟩
       have Hn:=Qh hbad
       clear hbad
       rcases hz with ⟨z1,z2⟩|⟨⟨z1,z3,z4,z5⟩,z2⟩
       all_goals
        first
        |exact absurd z2 hf
        |exact absurd hf z2
        |(clear hf z2
          go_wp2_with fail
          go_meet
          exact ⟨rfl,.inr ⟨(by first|rfl|(congr 1;simp;omega)),Hn.out⟩⟩)
     case rest=>
      obtain ⟨hw3,htt⟩:=hcut
      subst hw3
      rcases htt with ⟨rfl,hn⟩|⟨rfl,htt⟩
      ·have Hn:=Qh hn
       clear hn
       go_wp2
       go_ret
       exact ⟨Xag Hn.out.symm,hb3'⟩
      replace He:=Qh (show entErrR x=if xtsErr true x.exts≠0 then xtsErr true x.exts else if sumW x.exts≠x.size then 1 else 0 by rw [He.out,if_neg htt,f1])
      clear htt
      have hBx:=Qh (⟨c0,c1,c2,c3,c4,c5,c6⟩:EntB w3 w.heap.size x _ _)
      clear c0 c1 c2 c3 c4 c5 c6
      have HB:=Qh hb3'
      clear hb3'
      go_wp2_with fail
      go_loopw [6,7] (fun s6 s7 wr=> ∃k:Nat,k≤x.exts.length∧s7= .int .i64 k∧s6= .int .i64 (sumW (x.exts.take k))∧xtsErr true (x.exts.drop k)=xtsErr true x.exts∧Below w3.heap.size w3 wr) (fun _ i _=>x.exts.length-(intOf i).toNat)
      case atStart=>exact ⟨0,Nat.zero_le _,rfl,rfl,rfl,Qb _ _⟩
      case round=>
       obtain ⟨k,hk,rfl,rfl,hr,hb⟩:=hrel
       have Hr:=Qh hr;clear hr
       have hwr:Ok I wr:=hok3.below (Qn _) hb
       obtain ⟨c0,c1,c2,c3,c4,c5,c6⟩:=hBx.out.thru hb
       obtain ⟨sm,hsm⟩:∃s,sumW (x.exts.take k)=s:=⟨_,rfl⟩
       by_cases hlt:k<x.exts.length
       ·obtain ⟨y,b,off,cap',hly,hvv,e0,e1,e2⟩:=xtAt Hvx.out hwr k hlt
        cases hvv
        have Hdr:=Qh (show x.exts.drop k=y::x.exts.drop (k+1) by rw [List.drop_eq_getElem_cons hlt,hly])
        have Hst:=Qh (show entErrR x=if (if xtBad y then 2 else xtsErr true (x.exts.drop (k+1)))≠0 then (if xtBad y then 2 else xtsErr true (x.exts.drop (k+1))) else if sumW x.exts≠x.size then 1 else 0 by
         rw [He.out,←Hr.out,Hdr.out,Xbx])
        have Hsm:=Qh (show sumW (x.exts.take (k+1))=wrap64 (sm+y.n) by rw [List.take_succ_eq_append_getElem hlt,hly,Xj1,hsm])
        rw [hsm]
        clear hly hsm
        by_cases h1:y.s<0
        ·have Hbad:=Qh (show entErrR x=2 by rw [Hst.out,if_pos (show xtBad y=true by unfold xtBad;simp;omega)];rfl)
         go_wp2
         go_ret
         exact ⟨Xag Hbad.out.symm,HB.out.trans ((hb.alloc hb.size _).mono HB.out.size)⟩
        by_cases h2:255<y.s
        ·have Hbad:=Qh (show entErrR x=2 by rw [Hst.out,if_pos (show xtBad y=true by unfold xtBad;simp;omega)];rfl)
         go_wp2
         go_ret
         exact ⟨Xag Hbad.out.symm,HB.out.trans ((hb.alloc hb.size _).mono HB.out.size)⟩
        by_cases h3:y.o<0
        ·have Hbad:=Qh (show entErrR x=2 by rw [Hst.out,if_pos (show xtBad y=true by unfold xtBad;simp;omega)];rfl)
         go_wp2
         go_ret
         exact ⟨Xag Hbad.out.symm,HB.out.trans ((hb.alloc hb.size _).mono HB.out.size)⟩
        by_cases h4:2147483647<y.o
        ·have Hbad:=Qh (show entErrR x=2 by rw [Hst.out,if_pos (show xtBad y=true by unfold xtBad;simp;omega)];rfl)
         go_wp2
         go_ret
         exact ⟨Xag Hbad.out.symm,HB.out.trans ((hb.alloc hb.size _).mono HB.out.size)⟩
        by_cases h5:y.n<1
        ·have Hbad:=Qh (show entErrR x=2 by rw [Hst.out,if_pos (show xtBad y=true by unfold xtBad;simp;omega)];rfl)
         go_wp2
         go_ret
         exact ⟨Xag Hbad.out.symm,HB.out.trans ((hb.alloc hb.size _).mono HB.out.size)⟩
        by_cases h6:65536<y.n
        ·have Hbad:=Qh (show entErrR x=2 by rw [Hst.out,if_pos (show xtBad y=true by unfold xtBad;simp;omega)];rfl)
         go_wp2
         go_ret
         exact ⟨Xag Hbad.out.symm,HB.out.trans ((hb.alloc hb.size _).mono HB.out.size)⟩
        by_cases h7:y.s=0
        ·have g7:(y.s==0)=true:=by simpa using h7
         by_cases h8:y.o=0
         ·have g8:(y.o != 0)=false:=by simpa using h8
          have Hnx:=Qh (show xtsErr true (x.exts.drop (k+1))=xtsErr true x.exts by
           rw [←Hr.out,Hdr.out,Xbx,if_neg (show ¬xtBad y=true by unfold xtBad;simp;omega)])
          go_wp2
          go_roundw
          case rel=>exact ⟨k+1,by omega,by go_num,by rw [Hsm.out],Hnx.out,hb.alloc hb.size _⟩
          case measure=>simp [intOf];omega
         ·have g8:(y.o != 0)=true:=by simpa using h8
          have Hbad:=Qh (show entErrR x=2 by rw [Hst.out,if_pos (show xtBad y=true by unfold xtBad;simp;omega)];rfl)
          go_wp2
          go_ret
          exact ⟨Xag Hbad.out.symm,HB.out.trans ((hb.alloc hb.size _).mono HB.out.size)⟩
        ·have g7:(y.s==0)=false:=by simpa using h7
         have Hnx:=Qh (show xtsErr true (x.exts.drop (k+1))=xtsErr true x.exts by
          rw [←Hr.out,Hdr.out,Xbx,if_neg (show ¬xtBad y=true by unfold xtBad;simp;omega)])
         go_wp2
         go_roundw
         case rel=>exact ⟨k+1,by omega,by go_num,by rw [Hsm.out],Hnx.out,hb.alloc hb.size _⟩
         case measure=>simp [intOf];omega
       ·have hall:x.exts.take k=x.exts:=List.take_of_length_le (by omega)
        have hdn:x.exts.drop k= []:=List.drop_of_length_le (by omega)
        rw [hall] at hsm
        have Hn:=Qh (show entErrR x=if sm≠x.size then 1 else 0 by rw [He.out,←Hr.out,hdn,if_neg (by simp [xtsErr]),hsm])
        rw [hall,hsm]
        clear hall hdn hsm
        by_cases hq:sm=x.size
        ·have q1:(sm != x.size)=false:=by simpa using hq
         have Hn2:=Qh (show entErrR x=0 by rw [Hn.out,if_neg (by simpa using hq)])
         clear hq
         go_wp2
         go_ret
         exact ⟨Xag Hn2.out.symm,HB.out.trans (hb.mono HB.out.size)⟩
        ·have q1:(sm != x.size)=true:=by simpa using hq
         have Hn2:=Qh (show entErrR x=1 by rw [Hn.out,if_pos hq])
         clear hq
         go_wp2
         go_ret
         exact ⟨Xag Hn2.out.symm,HB.out.trans (hb.mono HB.out.size)⟩
   ·have f1:((x.kind:Int)==1)=false:=by simpa using hf
    go_upto_region 14 with fail
    go_cut [66] (fun s66 wx=>w3=wx∧(s66= .bool true∧entErrR x=2∨s66= .bool false∧ ¬(x.size<0∨65536<x.size∨(x.kind≠1∧x.size≠0))))
    case first=>
     have hmain:x.size<0∨65536<x.size∨(0≤x.size∧x.size≤65536∧x.kind≠1∧x.size≠0)∨(0≤x.size∧x.size≤65536∧(x.kind=1∨x.size=0)):=by omega
     rcases hmain with h|h|⟨h,h',h2,h3⟩|⟨h,h',h2⟩
     ·have Hn:=Qh (show entErrR x=2 by rw [He.out,if_pos (by omega)])
      clear hf
      go_wp2_with fail
      go_meet
      exact ⟨rfl,.inl ⟨(by first|rfl|(congr 1;simp;omega)),Hn.out⟩⟩
     ·have Hn:=Qh (show entErrR x=2 by rw [He.out,if_pos (by omega)])
      clear hf
      go_wp2_with fail
      go_meet
      exact ⟨rfl,.inl ⟨(by first|rfl|(congr 1;simp;omega)),Hn.out⟩⟩
     ·first
      |exact absurd hf h2
      |(have Hn:=Qh (show entErrR x=2 by rw [He.out,if_pos (by omega)])
        have g1:(x.size != 0)=true:=by simpa using h3
        clear hf h2 h3
        go_wp2_with fail
        go_meet
        exact ⟨rfl,.inl ⟨(by first|rfl|(congr 1;simp;omega)),Hn.out⟩⟩)
     ·have Hn:=Qh (show ¬(x.size<0∨65536<x.size∨(x.kind≠1∧x.size≠0)) by omega)
      have g2:x.kind=1∨(x.size != 0)=false:=h2.imp id (fun e=>by simp [e])
      rcases g2 with g2|g2
      all_goals
       first
       |exact absurd g2 hf
       |(clear hf h2
         go_wp2_with fail
         go_meet
         exact ⟨rfl,.inr ⟨(by first|rfl|(congr 1;simp;omega)),Hn.out⟩⟩)
    case rest=>
     obtain ⟨hw3,htt⟩:=hcut
     subst hw3
     rcases htt with ⟨rfl,hn⟩|⟨rfl,htt⟩
     ·have Hn:=Qh hn
      clear hn
      go_wp2
      go_ret
      exact ⟨Xag Hn.out.symm,hb3'⟩
     replace He:=Qh (show entErrR x=_ by rw [He.out,if_neg htt])
     have Hsz:=Qh (show 0≤x.size∧x.size≤65536∧(x.kind=1∨x.size=0) by omega)
     clear htt
     go_upto_region 16 with fail
     go_cut [82] (fun s82 wx=>w3=wx∧(s82= .bool true∧entErrR x=1∨s82= .bool false∧ ¬((x.kind=1∧x.digest.length≠32)∨(x.kind≠1∧x.digest≠ []))))
     case first=>
      by_cases hbad:(x.kind=1∧x.digest.length≠32)∨(x.kind≠1∧x.digest≠ [])
      ·have Hn:=Qh (show entErrR x=1 by rw [He.out,if_pos hbad])
       have hz:(((x.digest.length:Int) != 32)=true∧x.kind=1)∨(((x.digest== [])=false∧x.digest.isEmpty=false∧(!x.digest.isEmpty)=true∧(x.digest != [])=true)∧x.kind≠1):=by
        rcases hbad with ⟨h1,h2⟩|⟨h1,h2⟩
        ·left;exact ⟨by rw [bne_iff_ne];omega,h1⟩
        ·right
         exact ⟨Xde h2,h1⟩
       clear hbad
       rcases hz with ⟨z1,z2⟩|⟨⟨z1,z3,z4,z5⟩,z2⟩
       all_goals
        first
        |exact absurd z2 hf
        |exact absurd hf z2
        |(clear hf z2
          go_wp2_with fail
          go_meet
          exact ⟨rfl,.inl ⟨(by first|rfl|(congr 1;simp;omega)),Hn.out⟩⟩)
      ·have hz:(((x.digest.length:Int) != 32)=false∧x.kind=1)∨(((x.digest== [])=true∧x.digest.isEmpty=true∧(!x.digest.isEmpty)=false∧(x.digest != [])=false)∧x.kind≠1):=by
        by_cases h1:x.kind=1
        ·left
         have h2:x.digest.length=32:=Classical.byContradiction fun h=>hbad (.inl ⟨h1,h⟩)
         exact ⟨by rw [h2];rfl,h1⟩
        ·right
         exact ⟨Xdf (Classical.byContradiction fun h=>hbad (.inr ⟨h1,h⟩)),h1⟩
       have Hn:=Qh hbad
       clear hbad
       rcases hz with ⟨z1,z2⟩|⟨⟨z1,z3,z4,z5⟩,z2⟩
       all_goals
        first
        |exact absurd z2 hf
        |exact absurd hf z2
        |(clear hf z2
          go_wp2_with fail
          go_meet
          exact ⟨rfl,.inr ⟨(by first|rfl|(congr 1;simp;omega)),Hn.out⟩⟩)
     case rest=>
      obtain ⟨hw3,htt⟩:=hcut
      subst hw3
      rcases htt with ⟨rfl,hn⟩|⟨rfl,htt⟩
      ·have Hn:=Qh hn
       clear hn
       go_wp2
       go_ret
       exact ⟨Xag Hn.out.symm,hb3'⟩
      replace He:=Qh (show entErrR x=if xtsErr false x.exts≠0 then xtsErr false x.exts else if sumW x.exts≠x.size then 1 else 0 by rw [He.out,if_neg htt,f1])
      clear htt
      go_wp2_with fail
      go_loopw [6,7] (fun s6 s7 wr=>s6= .int .i64 0∧s7= .int .i64 0∧w3=wr) (fun _ _ _=>0)
      case atStart=>exact ⟨rfl,rfl,rfl⟩
      case round=>
       obtain ⟨rfl,rfl,hwr⟩:=hrel
       subst hwr
       by_cases hl0:0<x.exts.length
       ·obtain ⟨y,b,off,cap',hly,hvv,e0,e1,e2⟩:=xtAt Hvx.out hok3 0 hl0
        cases hvv
        have hxe:x.exts=y::x.exts.drop 1:=by rw [←hly,←List.drop_eq_getElem_cons hl0];rfl
        have Hn:=Qh (show entErrR x=1 by rw [He.out,hxe];rfl)
        rw [Nat.zero_mul,Nat.add_zero] at e0 e1 e2
        clear hly hxe
        go_wp2
        go_ret
        exact ⟨Xag Hn.out.symm,hb3'.alloc (Nat.le_of_lt hsz3) _⟩
       ·have Hx0:=Qh (show x.exts= [] from List.eq_nil_of_length_eq_zero (by omega))
        have Hn:=Qh (show entErrR x=0 by
         rw [He.out,Hx0.out,if_neg (by simp [xtsErr]),if_neg]
         have:=Hsz.out
         simp [sumW]
         omega)
        have hz0:x.size=0:=by have:=Hsz.out;omega
        have hz1:((0:Int) != x.size)=false:=by rw [hz0];rfl
        clear hz0
        go_wp2
        go_ret
        exact ⟨Xag Hn.out.symm,hb3'⟩
theorem below_setRow {B:Nat} {w w':World} {g:Nat} (h:Below B w w') (hg:B≤g) (cs:Array Value):Below B w (w'.setRow g cs):=
 ⟨h.os,h.tape,h.output,by simpa using h.size,fun k hk=>by rw [setRow_other _ _ _ _ (by omega)];exact h.block k hk⟩
def zeroE:Ent:=⟨0,[],[],[],0,[],[]⟩
def getE (t:List Ent) (p:Bytes):Ent × Bool:=match getT t p with|some x=>(x,true)|none=>(zeroE,false)
def RetG (I:IH) (w:World) (x:Ent × Bool) (e:Ending) (w':World):Prop:=
 ∃va vx,e= .returned (.tuple #[entV x.1 va vx,.bool x.2])∧RdS tAt I va x.1.attrs∧RdS tXt I vx x.1.exts∧Below w.heap.size w w'
abbrev entRow (x:Ent) (va vx:Value):Array Value:= #[.int .i64 x.kind,S x.path,va,S x.target,.int .i64 x.size,S x.digest,vx]
abbrev zeroRow:Array Value:= #[.int .i64 0,.string ⟨#[]⟩,.slice none 0 0,.string ⟨#[]⟩,.int .i64 0,.string ⟨#[]⟩,.slice none 0 0]
theorem Xou {x:Ent} {va vx:Value} {I:IH} (h1:RdS tAt I va x.attrs) (h2:RdS tXt I vx x.exts):(entRow x va vx).all (·.oneCell')=true:=by
 have e1:=h1.one
 have e2:=h2.one
 simp [entRow,e1,e2]
 exact ⟨rfl,rfl,rfl,rfl,rfl⟩
theorem Xox (t:List Ent) (p:Bytes) (hp:p≠ []):dirErr t p=if (getE t p).2=false then 9 else if (getE t p).1.kind≠2 then 10 else 0:=by
 unfold dirErr getE
 rw [if_neg hp]
 cases getT t p<;>simp
abbrev AllE (t:List Ent):Prop:= ∀x∈t,x.Wf
def chkTRFrom (t:List Ent):Option Ent→List Ent→Int
 |_,[]=>0
 |q,x::l=>if entErrR x≠0 then entErrR x else if x.kind≠1∧x.kind≠2∧x.kind≠3 then 10 else if (q.any fun y=> !(ltP (els y.path) (els x.path))) then 14 else if dirErr t (upP x.path)≠0 then dirErr t (upP x.path) else chkTRFrom t (some x) l
def chkTR (t:List Ent):Int:=chkTRFrom t none t
theorem Xtq {p d:Bytes} (h:ltP (els p) (els d)=true):cmpP p d= -1:=by rw [cmpP,h];rfl
theorem Xtr {p d:Bytes} (h:ltP (els p) (els d)=false):cmpP p d=0∨cmpP p d=1:=by
 rw [cmpP,h]
 cases ltP (els d) (els p)<;>simp
theorem Xux {s:Bytes} (h:pathErr s=0) (hs:s≠ []):parP s=(upP s,0):=by rw [parP,if_neg (by omega),if_neg hs]
def rightT (t:List Ent):Int:=if 60<t.length then 0 else if chkTR t≠0 then 0 else if t.any greatE then 0 else 1
end Go.Proofs.YtkipnpjagcfcpaaGreatDoor
namespace Go.Proofs
open Go.Shelf
def Tryz.lays156_ren:Go.Shelf.Ren:=⟨fun|156=>140|165=>189|166=>23|169=>28|240=>60|241=>253|276=>107|277=>286|n=>n,fun|31=>123|9=>9|3=>3|4=>4|0=>0|20=>20|72=>71|76=>74|70=>68|37=>69|75=>73|127=>130|164=>165|5=>5|80=>80|n=>n,fun|n=>n⟩
theorem Tryz.lays156:Go.Proofs.Lays.n156 Tryz.prog Tryz.lays156_ren:= {
 mixed:=by kernel_rfl
 f156:=Tryz.func140.trans (congrArg some (by kernel_rfl))
 f165:=Tryz.func189.trans (congrArg some (by kernel_rfl))
 f166:=Tryz.func23.trans (congrArg some (by kernel_rfl))
 f169:=Tryz.func28.trans (congrArg some (by kernel_rfl))
 f240:=Tryz.func60.trans (congrArg some (by kernel_rfl))
 f241:=Tryz.func253.trans (congrArg some (by kernel_rfl))
 f276:=Tryz.func107.trans (congrArg some (by kernel_rfl))
 f277:=Tryz.func286.trans (congrArg some (by kernel_rfl))
 t0:=Tryz.underlying0
 a0:=Tryz.isAgg0
 z0:=Tryz.sizeOf0
 v0:=Tryz.zeroValue0
 t3:=Tryz.underlying3
 a3:=Tryz.isAgg3
 z3:=Tryz.sizeOf3
 v3:=Tryz.zeroValue3
 t4:=Tryz.underlying4
 a4:=Tryz.isAgg4
 z4:=Tryz.sizeOf4
 v4:=Tryz.zeroValue4
 t9:=Tryz.underlying9
 a9:=Tryz.isAgg9
 z9:=Tryz.sizeOf9
 v9:=Tryz.zeroValue9
 t20:=Tryz.underlying20
 a20:=Tryz.isAgg20
 z20:=Tryz.sizeOf20
 v20:=Tryz.zeroValue20
 t31:=Tryz.underlying123
 a31:=Tryz.isAgg123
 z31:=Tryz.sizeOf123
 v31:=Tryz.zeroValue123
 t37:=Tryz.underlying69
 a37:=Tryz.isAgg69
 z37:=Tryz.sizeOf69
 v37:=Tryz.zeroValue69
 t70:=Tryz.underlying68
 a70:=Tryz.isAgg68
 z70:=Tryz.sizeOf68
 v70:=Tryz.zeroValue68
 t72:=Tryz.underlying71
 a72:=Tryz.isAgg71
 z72:=Tryz.sizeOf71
 v72:=Tryz.zeroValue71
 t75:=Tryz.underlying73
 a75:=Tryz.isAgg73
 z75:=Tryz.sizeOf73
 v75:=Tryz.zeroValue73
 t76:=Tryz.underlying74
 a76:=Tryz.isAgg74
 z76:=Tryz.sizeOf74
 v76:=Tryz.zeroValue74
 t127:=Tryz.underlying130
 a127:=Tryz.isAgg130
 z127:=Tryz.sizeOf130
 v127:=Tryz.zeroValue130
 t164:=Tryz.underlying165
 a164:=Tryz.isAgg165
 z164:=Tryz.sizeOf165
 v164:=Tryz.zeroValue165 }
theorem Tryz.Builder_Extra_156:Builder.Extra Tryz.prog Tryz.lays156_ren:= {
 sizeBuilder:=by kernel_rfl
 liesBuilder:=by kernel_rfl
 t5:=Tryz.underlying5
 a5:=Tryz.isAgg5
 z5:=Tryz.sizeOf5
 v5:=Tryz.zeroValue5
 infoByte:=by kernel_rfl
 cellsByte:=by kernel_rfl
 sizeByte:=by kernel_rfl
 neB5:=by decide }
open Go.RowKit in
theorem Tryz.strings_Join_none (a:Option Addr) (c:Nat) (sep:ByteArray) (w:World):
 Calls Tryz.prog 140 #[.slice a 0 c,.string sep] w fun e w'=>e= .returned (.string ⟨#[]⟩)∧w'=w:=Any.strings_Join_none Tryz.lays156 Tryz.Builder_Extra_156 a c sep w
open Go.RowKit in
theorem Tryz.strings_Join (bk o c:Nat) (xs:List ByteArray) (sep:ByteArray) (w:World) (hcells:∀(j:Nat) x,xs[j]? =some x→w.cell? ⟨bk,o+j,none⟩=some (.string x)) (hbk:bk<w.heap.size) (hN:xs.length≤140737488355328) (hcap:xs.length≤c) (hlen:(Lib.join (xs.map (·.data.toList)) sep.data.toList).length≤140737488355328):
 Calls Tryz.prog 140 #[.slice (some ⟨bk,o,none⟩) xs.length c,.string sep] w fun e w'=>e= .returned (.string ⟨(Lib.join (xs.map (·.data.toList)) sep.data.toList).toArray⟩)∧Below w.heap.size w w':=Any.strings_Join Tryz.lays156 Tryz.Builder_Extra_156 bk o c xs sep w hcells hbk hN hcap hlen
def Tryz.lays106_ren:Go.Shelf.Ren:=⟨fun|106=>178|213=>249|265=>285|n=>n,fun|9=>9|3=>3|n=>n,fun|n=>n⟩
theorem Tryz.lays106:Go.Proofs.Lays.n106 Tryz.prog Tryz.lays106_ren:= {
 mixed:=by kernel_rfl
 f106:=Tryz.func178.trans (congrArg some (by kernel_rfl))
 f213:=Tryz.func249.trans (congrArg some (by kernel_rfl))
 f265:=Tryz.func285.trans (congrArg some (by kernel_rfl))
 t3:=Tryz.underlying3
 a3:=Tryz.isAgg3
 z3:=Tryz.sizeOf3
 v3:=Tryz.zeroValue3
 t9:=Tryz.underlying9
 a9:=Tryz.isAgg9
 z9:=Tryz.sizeOf9
 v9:=Tryz.zeroValue9 }
open Go.RowKit in
theorem Tryz.strings_Compare (a b:ByteArray) (w:World):
 Calls Tryz.prog 178 #[.string a,.string b] w fun e w'=>e= .returned (.int .i64 (Lib.compareBytes a.data.toList b.data.toList))∧w'=w:=Any.strings_Compare Tryz.lays106 a b w
def Tryz.laysGw17_ren:Go.Shelf.Ren:=⟨fun|17=>245|15=>284|20=>304|n=>n,fun|9=>9|23=>285|4=>4|3=>3|0=>0|21=>21|n=>n,fun|n=>n⟩
theorem Tryz.laysGw17:Go.Proofs.LaysGw.n17 Tryz.prog Tryz.laysGw17_ren:= {
 mixed:=by kernel_rfl
 f15:=Tryz.func284.trans (congrArg some (by kernel_rfl))
 f17:=Tryz.func245.trans (congrArg some (by kernel_rfl))
 f20:=Tryz.func304.trans (congrArg some (by kernel_rfl))
 t0:=Tryz.underlying0
 a0:=Tryz.isAgg0
 z0:=Tryz.sizeOf0
 v0:=Tryz.zeroValue0
 i0:=by kernel_rfl
 t3:=Tryz.underlying3
 a3:=Tryz.isAgg3
 z3:=Tryz.sizeOf3
 v3:=Tryz.zeroValue3
 i3:=by kernel_rfl
 t4:=Tryz.underlying4
 a4:=Tryz.isAgg4
 z4:=Tryz.sizeOf4
 v4:=Tryz.zeroValue4
 i4:=by kernel_rfl
 t9:=Tryz.underlying9
 a9:=Tryz.isAgg9
 z9:=Tryz.sizeOf9
 v9:=Tryz.zeroValue9
 i9:=by kernel_rfl
 t21:=Tryz.underlying21
 a21:=Tryz.isAgg21
 z21:=Tryz.sizeOf21
 v21:=Tryz.zeroValue21
 i21:=by kernel_rfl
 t23:=Tryz.underlying285
 a23:=Tryz.isAgg285
 z23:=Tryz.sizeOf285
 v23:=Tryz.zeroValue285
 i23:=by kernel_rfl }
open Go.RowKit Go.Lib in
theorem Tryz.strings_ContainsFunc (g:Nat) (lb:Array Value) (eg:∀args w,(callFunc g args).run Tryz.prog w= .ok (.enter g args) w) (p:Nat→Bool) (s:ByteArray) (w:World) (hp:PredAt Tryz.prog g lb encR p w):
 Calls Tryz.prog 245 #[.string s,.func (.func g) #[] lb] w fun e w'=>e= .returned (.bool (decide (0≤Lib.idxFunc p true s)))∧Below w.heap.size w w':=Any.strings_ContainsFunc Tryz.laysGw17 g lb eg p s w hp
def Tryz.lays146_ren:Go.Shelf.Ren:=⟨fun|146=>238|221=>278|268=>300|138=>301|143=>33|195=>308|197=>272|218=>309|219=>67|260=>295|217=>118|225=>119|224=>120|267=>121|266=>184|314=>185|n=>n,fun|9=>9|31=>123|3=>3|4=>4|0=>0|105=>307|21=>21|5=>5|46=>173|119=>334|139=>337|138=>336|146=>225|51=>41|n=>n,fun|1=>0|3=>4|4=>5|n=>n⟩
theorem Tryz.lays146:Go.Proofs.Lays.n146 Tryz.prog Tryz.lays146_ren:= {
 mixed:=by kernel_rfl
 f138:=Tryz.func301.trans (congrArg some (by kernel_rfl))
 f143:=Tryz.func33.trans (congrArg some (by kernel_rfl))
 f146:=Tryz.func238.trans (congrArg some (by kernel_rfl))
 f195:=Tryz.func308.trans (congrArg some (by kernel_rfl))
 f197:=Tryz.func272.trans (congrArg some (by kernel_rfl))
 f217:=Tryz.func118.trans (congrArg some (by kernel_rfl))
 f218:=Tryz.func309.trans (congrArg some (by kernel_rfl))
 f219:=Tryz.func67.trans (congrArg some (by kernel_rfl))
 f221:=Tryz.func278.trans (congrArg some (by kernel_rfl))
 f224:=Tryz.func120.trans (congrArg some (by kernel_rfl))
 f225:=Tryz.func119.trans (congrArg some (by kernel_rfl))
 f260:=Tryz.func295.trans (congrArg some (by kernel_rfl))
 f266:=Tryz.func184.trans (congrArg some (by kernel_rfl))
 f267:=Tryz.func121.trans (congrArg some (by kernel_rfl))
 f268:=Tryz.func300.trans (congrArg some (by kernel_rfl))
 f314:=Tryz.func185.trans (congrArg some (by kernel_rfl))
 t0:=Tryz.underlying0
 a0:=Tryz.isAgg0
 z0:=Tryz.sizeOf0
 v0:=Tryz.zeroValue0
 t3:=Tryz.underlying3
 a3:=Tryz.isAgg3
 z3:=Tryz.sizeOf3
 v3:=Tryz.zeroValue3
 t4:=Tryz.underlying4
 a4:=Tryz.isAgg4
 z4:=Tryz.sizeOf4
 v4:=Tryz.zeroValue4
 t5:=Tryz.underlying5
 a5:=Tryz.isAgg5
 z5:=Tryz.sizeOf5
 v5:=Tryz.zeroValue5
 t9:=Tryz.underlying9
 a9:=Tryz.isAgg9
 z9:=Tryz.sizeOf9
 v9:=Tryz.zeroValue9
 t21:=Tryz.underlying21
 a21:=Tryz.isAgg21
 z21:=Tryz.sizeOf21
 v21:=Tryz.zeroValue21
 t31:=Tryz.underlying123
 a31:=Tryz.isAgg123
 z31:=Tryz.sizeOf123
 v31:=Tryz.zeroValue123
 t46:=Tryz.underlying173
 a46:=Tryz.isAgg173
 z46:=Tryz.sizeOf173
 v46:=Tryz.zeroValue173
 t51:=Tryz.underlying41
 a51:=Tryz.isAgg41
 z51:=Tryz.sizeOf41
 v51:=Tryz.zeroValue41
 t105:=Tryz.underlying307
 a105:=Tryz.isAgg307
 z105:=Tryz.sizeOf307
 v105:=Tryz.zeroValue307
 t119:=Tryz.underlying334
 a119:=Tryz.isAgg334
 z119:=Tryz.sizeOf334
 t138:=Tryz.underlying336
 a138:=Tryz.isAgg336
 z138:=Tryz.sizeOf336
 v138:=Tryz.zeroValue336
 t139:=Tryz.underlying337
 a139:=Tryz.isAgg337
 z139:=Tryz.sizeOf337
 v139:=Tryz.zeroValue337
 t146:=Tryz.underlying225
 a146:=Tryz.isAgg225
 z146:=Tryz.sizeOf225
 v146:=Tryz.zeroValue225
 g1:=by kernel_rfl
 g3:=by kernel_rfl
 g4:=by kernel_rfl }
open Go.RowKit Go.Lib in
theorem Tryz.strings_Split (s sep:ByteArray) (m:Int) (w:World) (hs:s.size<4294967281) (hm:w.cell? ⟨0,0,none⟩=some (.int .i64 m)) (h1:1≤sep.size):
 Calls Tryz.prog 238 #[.string s,.string sep] w fun e w'=>
  e= .returned (.slice (some ⟨w.heap.size,0,none⟩) (Lib.countB s sep+1) (Lib.countB s sep+1))∧w'=w.alloc (.cells ((Lib.splitB sep 0 (Lib.countB s sep) s).map Value.string).toArray 9):=Any.strings_Split Tryz.lays146 (by kernel_rfl) s sep m w hs hm h1
def Tryz.lays193_ren:Go.Shelf.Ren:=⟨fun|193=>261|n=>n,fun|31=>123|9=>9|4=>4|3=>3|0=>0|n=>n,fun|n=>n⟩
theorem Tryz.lays193:Go.Proofs.Lays.n193 Tryz.prog Tryz.lays193_ren:= {
 mixed:=by kernel_rfl
 f193:=Tryz.func261.trans (congrArg some (by kernel_rfl))
 t0:=Tryz.underlying0
 a0:=Tryz.isAgg0
 z0:=Tryz.sizeOf0
 v0:=Tryz.zeroValue0
 t3:=Tryz.underlying3
 a3:=Tryz.isAgg3
 z3:=Tryz.sizeOf3
 v3:=Tryz.zeroValue3
 t4:=Tryz.underlying4
 a4:=Tryz.isAgg4
 z4:=Tryz.sizeOf4
 v4:=Tryz.zeroValue4
 t9:=Tryz.underlying9
 a9:=Tryz.isAgg9
 z9:=Tryz.sizeOf9
 v9:=Tryz.zeroValue9
 t31:=Tryz.underlying123
 a31:=Tryz.isAgg123
 z31:=Tryz.sizeOf123
 v31:=Tryz.zeroValue123 }
open Go.RowKit Go.Lib in
theorem Tryz.slices_Equal_string (b1 o1 n c b2 o2 m d:Nat) (xs ys:List ByteArray) (w:World) (hx:n≤xs.length) (hy:m≤ys.length) (hbig:n≤9223372036854775807) (hbig2:m≤9223372036854775807) (hc1:∀j,j<xs.length→w.cell? ⟨b1,o1+j,none⟩=some (.string (xs.getD j ByteArray.empty))) (hc2:∀j,j<ys.length→w.cell? ⟨b2,o2+j,none⟩=some (.string (ys.getD j ByteArray.empty))):
 Calls Tryz.prog 261 #[.slice (some ⟨b1,o1,none⟩) n c,.slice (some ⟨b2,o2,none⟩) m d] w fun e w'=>e= .returned (.bool (decide (xs.take n=ys.take m)))∧ ∃q,w'=w.drewN q:=Any.slices_Equal_string Tryz.lays193 b1 o1 n c b2 o2 m d xs ys w hx hy hbig hbig2 hc1 hc2
open Go.RowKit Go.Lib in
theorem Tryz.slices_Equal_string_empty (a1 a2:Option Addr) (c m d:Nat) (w:World) (hbig2:m≤9223372036854775807):
 Calls Tryz.prog 261 #[.slice a1 0 c,.slice a2 m d] w fun e w'=>e= .returned (.bool (decide (m=0)))∧w'=w:=Any.slices_Equal_string_empty Tryz.lays193 a1 a2 c m d w hbig2
open Go.RowKit Go.Lib in
theorem Tryz.slices_Equal_string_lens (a1 a2:Option Addr) (n c m d:Nat) (w:World) (hnm:n≠m):
 Calls Tryz.prog 261 #[.slice a1 n c,.slice a2 m d] w fun e w'=>e= .returned (.bool false)∧w'=w:=Any.slices_Equal_string_lens Tryz.lays193 a1 a2 n c m d w hnm
end Go.Proofs
namespace Go.Proofs
open Go.Shelf
def Tryz.laysM171_ren:Go.Shelf.Ren:=⟨fun|171=>61|243=>108|246=>173|283=>240|284=>241|285=>242|286=>243|129=>280|317=>279|318=>281|319=>282|320=>283|337=>302|338=>303|n=>n,fun|3=>3|9=>9|2=>2|4=>4|171=>278|0=>0|53=>23|37=>69|5=>5|173=>281|212=>317|51=>41|20=>20|213=>318|46=>173|232=>338|233=>339|n=>n,fun|17=>3|18=>6|19=>7|n=>n⟩
theorem Tryz.laysM171:Go.Proofs.LaysM.n171 Tryz.prog Tryz.laysM171_ren:= {
 mixed:=by kernel_rfl
 f129:=Tryz.func280.trans (congrArg some (by kernel_rfl))
 f171:=Tryz.func61.trans (congrArg some (by kernel_rfl))
 f243:=Tryz.func108.trans (congrArg some (by kernel_rfl))
 f246:=Tryz.func173.trans (congrArg some (by kernel_rfl))
 f283:=Tryz.func240.trans (congrArg some (by kernel_rfl))
 f284:=Tryz.func241.trans (congrArg some (by kernel_rfl))
 f285:=Tryz.func242.trans (congrArg some (by kernel_rfl))
 f286:=Tryz.func243.trans (congrArg some (by kernel_rfl))
 f317:=Tryz.func279.trans (congrArg some (by kernel_rfl))
 f318:=Tryz.func281.trans (congrArg some (by kernel_rfl))
 f319:=Tryz.func282.trans (congrArg some (by kernel_rfl))
 f320:=Tryz.func283.trans (congrArg some (by kernel_rfl))
 f337:=Tryz.func302.trans (congrArg some (by kernel_rfl))
 f338:=Tryz.func303.trans (congrArg some (by kernel_rfl))
 t0:=Tryz.underlying0
 a0:=Tryz.isAgg0
 z0:=Tryz.sizeOf0
 v0:=Tryz.zeroValue0
 t2:=Tryz.underlying2
 a2:=Tryz.isAgg2
 z2:=Tryz.sizeOf2
 v2:=Tryz.zeroValue2
 t3:=Tryz.underlying3
 a3:=Tryz.isAgg3
 z3:=Tryz.sizeOf3
 v3:=Tryz.zeroValue3
 t4:=Tryz.underlying4
 a4:=Tryz.isAgg4
 z4:=Tryz.sizeOf4
 v4:=Tryz.zeroValue4
 t5:=Tryz.underlying5
 a5:=Tryz.isAgg5
 z5:=Tryz.sizeOf5
 v5:=Tryz.zeroValue5
 t9:=Tryz.underlying9
 a9:=Tryz.isAgg9
 z9:=Tryz.sizeOf9
 v9:=Tryz.zeroValue9
 t20:=Tryz.underlying20
 a20:=Tryz.isAgg20
 z20:=Tryz.sizeOf20
 v20:=Tryz.zeroValue20
 t37:=Tryz.underlying69
 a37:=Tryz.isAgg69
 z37:=Tryz.sizeOf69
 v37:=Tryz.zeroValue69
 t46:=Tryz.underlying173
 a46:=Tryz.isAgg173
 z46:=Tryz.sizeOf173
 v46:=Tryz.zeroValue173
 t51:=Tryz.underlying41
 a51:=Tryz.isAgg41
 z51:=Tryz.sizeOf41
 v51:=Tryz.zeroValue41
 t53:=Tryz.underlying23
 a53:=Tryz.isAgg23
 z53:=Tryz.sizeOf23
 v53:=Tryz.zeroValue23
 t171:=Tryz.underlying278
 a171:=Tryz.isAgg278
 z171:=Tryz.sizeOf278
 v171:=Tryz.zeroValue278
 t173:=Tryz.underlying281
 a173:=Tryz.isAgg281
 z173:=Tryz.sizeOf281
 v173:=Tryz.zeroValue281
 t212:=Tryz.underlying317
 a212:=Tryz.isAgg317
 z212:=Tryz.sizeOf317
 v212:=Tryz.zeroValue317
 t213:=Tryz.underlying318
 a213:=Tryz.isAgg318
 z213:=Tryz.sizeOf318
 t232:=Tryz.underlying338
 a232:=Tryz.isAgg338
 z232:=Tryz.sizeOf338
 v232:=Tryz.zeroValue338
 t233:=Tryz.underlying339
 a233:=Tryz.isAgg339
 z233:=Tryz.sizeOf339
 v233:=Tryz.zeroValue339
 g17:=by kernel_rfl
 g18:=by kernel_rfl
 g19:=by kernel_rfl
 i0:=by kernel_rfl
 i2:=by kernel_rfl
 i3:=by kernel_rfl
 i4:=by kernel_rfl
 i5:=by kernel_rfl
 i9:=by kernel_rfl
 i20:=by kernel_rfl
 i37:=by kernel_rfl
 i46:=by kernel_rfl
 i51:=by kernel_rfl
 i53:=by kernel_rfl
 i171:=by kernel_rfl
 i173:=by kernel_rfl
 i212:=by kernel_rfl
 i232:=by kernel_rfl
 i233:=by kernel_rfl
 m17:=by kernel_rfl
 m18:=by kernel_rfl
 m19:=by kernel_rfl }
open Go.RowKit Go.Sort Go.Lib in
theorem Tryz.strconv_Itoa (n : Int) (h0 : -9223372036854775808 ≤ n) (h1 : n ≤ 9223372036854775807) (w : World) (htab : Lib.TabIs Tryz.prog w "internal/strconv.uint64pow10" .u64 Lib.pow10Tab) :
 Calls Tryz.prog 61 #[.int .i64 n] w fun e w'=>e= .returned (.string ⟨(Lib.itoa n).toArray⟩)∧ ∃k os,w'=grow (w.drewN k) os:=Any.strconv_Itoa Tryz.laysM171 n h0 h1 w htab
def Tryz.laysC172_ren:Go.Shelf.Ren:=⟨fun|172=>101|244=>163|245=>164|247=>228|279=>229|280=>230|281=>231|282=>232|287=>275|316=>276|171=>61|205=>277|321=>298|322=>299|243=>108|246=>173|283=>240|284=>241|285=>242|286=>243|129=>280|317=>279|318=>281|319=>282|320=>283|337=>302|338=>303|n=>n,fun|9=>9|3=>3|75=>73|76=>74|4=>4|5=>5|167=>269|37=>69|0=>0|85=>270|2=>2|168=>272|53=>23|175=>310|46=>173|210=>313|127=>130|145=>328|143=>326|21=>21|171=>278|173=>281|212=>317|51=>41|20=>20|213=>318|232=>338|233=>339|80=>80|n=>n,fun|15=>1|16=>2|17=>3|18=>6|19=>7|n=>n⟩
theorem Tryz.laysC172:Go.Proofs.LaysC.n172 Tryz.prog Tryz.laysC172_ren:= {
 mixed:=by kernel_rfl
 f129:=Tryz.func280.trans (congrArg some (by kernel_rfl))
 f171:=Tryz.func61.trans (congrArg some (by kernel_rfl))
 f172:=Tryz.func101.trans (congrArg some (by kernel_rfl))
 f205:=Tryz.func277.trans (congrArg some (by kernel_rfl))
 f243:=Tryz.func108.trans (congrArg some (by kernel_rfl))
 f244:=Tryz.func163.trans (congrArg some (by kernel_rfl))
 f245:=Tryz.func164.trans (congrArg some (by kernel_rfl))
 f246:=Tryz.func173.trans (congrArg some (by kernel_rfl))
 f247:=Tryz.func228.trans (congrArg some (by kernel_rfl))
 f279:=Tryz.func229.trans (congrArg some (by kernel_rfl))
 f280:=Tryz.func230.trans (congrArg some (by kernel_rfl))
 f281:=Tryz.func231.trans (congrArg some (by kernel_rfl))
 f282:=Tryz.func232.trans (congrArg some (by kernel_rfl))
 f283:=Tryz.func240.trans (congrArg some (by kernel_rfl))
 f284:=Tryz.func241.trans (congrArg some (by kernel_rfl))
 f285:=Tryz.func242.trans (congrArg some (by kernel_rfl))
 f286:=Tryz.func243.trans (congrArg some (by kernel_rfl))
 f287:=Tryz.func275.trans (congrArg some (by kernel_rfl))
 f316:=Tryz.func276.trans (congrArg some (by kernel_rfl))
 f317:=Tryz.func279.trans (congrArg some (by kernel_rfl))
 f318:=Tryz.func281.trans (congrArg some (by kernel_rfl))
 f319:=Tryz.func282.trans (congrArg some (by kernel_rfl))
 f320:=Tryz.func283.trans (congrArg some (by kernel_rfl))
 f321:=Tryz.func298.trans (congrArg some (by kernel_rfl))
 f322:=Tryz.func299.trans (congrArg some (by kernel_rfl))
 f337:=Tryz.func302.trans (congrArg some (by kernel_rfl))
 f338:=Tryz.func303.trans (congrArg some (by kernel_rfl))
 t0:=Tryz.underlying0
 a0:=Tryz.isAgg0
 z0:=Tryz.sizeOf0
 v0:=Tryz.zeroValue0
 t2:=Tryz.underlying2
 a2:=Tryz.isAgg2
 z2:=Tryz.sizeOf2
 v2:=Tryz.zeroValue2
 t3:=Tryz.underlying3
 a3:=Tryz.isAgg3
 z3:=Tryz.sizeOf3
 v3:=Tryz.zeroValue3
 t4:=Tryz.underlying4
 a4:=Tryz.isAgg4
 z4:=Tryz.sizeOf4
 v4:=Tryz.zeroValue4
 t5:=Tryz.underlying5
 a5:=Tryz.isAgg5
 z5:=Tryz.sizeOf5
 v5:=Tryz.zeroValue5
 t9:=Tryz.underlying9
 a9:=Tryz.isAgg9
 z9:=Tryz.sizeOf9
 v9:=Tryz.zeroValue9
 t20:=Tryz.underlying20
 a20:=Tryz.isAgg20
 z20:=Tryz.sizeOf20
 v20:=Tryz.zeroValue20
 t21:=Tryz.underlying21
 a21:=Tryz.isAgg21
 z21:=Tryz.sizeOf21
 v21:=Tryz.zeroValue21
 t37:=Tryz.underlying69
 a37:=Tryz.isAgg69
 z37:=Tryz.sizeOf69
 v37:=Tryz.zeroValue69
 t46:=Tryz.underlying173
 a46:=Tryz.isAgg173
 z46:=Tryz.sizeOf173
 v46:=Tryz.zeroValue173
 t51:=Tryz.underlying41
 a51:=Tryz.isAgg41
 z51:=Tryz.sizeOf41
 v51:=Tryz.zeroValue41
 t53:=Tryz.underlying23
 a53:=Tryz.isAgg23
 z53:=Tryz.sizeOf23
 v53:=Tryz.zeroValue23
 t75:=Tryz.underlying73
 a75:=Tryz.isAgg73
 z75:=Tryz.sizeOf73
 v75:=Tryz.zeroValue73
 t76:=Tryz.underlying74
 a76:=Tryz.isAgg74
 z76:=Tryz.sizeOf74
 v76:=Tryz.zeroValue74
 t85:=Tryz.underlying270
 a85:=Tryz.isAgg270
 z85:=Tryz.sizeOf270
 v85:=Tryz.zeroValue270
 t127:=Tryz.underlying130
 a127:=Tryz.isAgg130
 z127:=Tryz.sizeOf130
 v127:=Tryz.zeroValue130
 t143:=Tryz.underlying326
 a143:=Tryz.isAgg326
 z143:=Tryz.sizeOf326
 v143:=Tryz.zeroValue326
 t145:=Tryz.underlying328
 a145:=Tryz.isAgg328
 z145:=Tryz.sizeOf328
 v145:=Tryz.zeroValue328
 t167:=Tryz.underlying269
 a167:=Tryz.isAgg269
 z167:=Tryz.sizeOf269
 v167:=Tryz.zeroValue269
 t168:=Tryz.underlying272
 a168:=Tryz.isAgg272
 z168:=Tryz.sizeOf272
 v168:=Tryz.zeroValue272
 t171:=Tryz.underlying278
 a171:=Tryz.isAgg278
 z171:=Tryz.sizeOf278
 v171:=Tryz.zeroValue278
 t173:=Tryz.underlying281
 a173:=Tryz.isAgg281
 z173:=Tryz.sizeOf281
 v173:=Tryz.zeroValue281
 t175:=Tryz.underlying310
 a175:=Tryz.isAgg310
 z175:=Tryz.sizeOf310
 v175:=Tryz.zeroValue310
 t210:=Tryz.underlying313
 a210:=Tryz.isAgg313
 z210:=Tryz.sizeOf313
 v210:=Tryz.zeroValue313
 t212:=Tryz.underlying317
 a212:=Tryz.isAgg317
 z212:=Tryz.sizeOf317
 v212:=Tryz.zeroValue317
 t213:=Tryz.underlying318
 a213:=Tryz.isAgg318
 z213:=Tryz.sizeOf318
 t232:=Tryz.underlying338
 a232:=Tryz.isAgg338
 z232:=Tryz.sizeOf338
 v232:=Tryz.zeroValue338
 t233:=Tryz.underlying339
 a233:=Tryz.isAgg339
 z233:=Tryz.sizeOf339
 v233:=Tryz.zeroValue339
 g15:=by kernel_rfl
 g16:=by kernel_rfl
 g17:=by kernel_rfl
 g18:=by kernel_rfl
 g19:=by kernel_rfl
 t80:=Tryz.underlying80
 a80:=Tryz.isAgg80
 z80:=Tryz.sizeOf80
 v80:=Tryz.zeroValue80
 i0:=by kernel_rfl
 i2:=by kernel_rfl
 i3:=by kernel_rfl
 i4:=by kernel_rfl
 i5:=by kernel_rfl
 i9:=by kernel_rfl
 i20:=by kernel_rfl
 i21:=by kernel_rfl
 i37:=by kernel_rfl
 i46:=by kernel_rfl
 i51:=by kernel_rfl
 i53:=by kernel_rfl
 i75:=by kernel_rfl
 i76:=by kernel_rfl
 i80:=by kernel_rfl
 i85:=by kernel_rfl
 i127:=by kernel_rfl
 i143:=by kernel_rfl
 i145:=by kernel_rfl
 i167:=by kernel_rfl
 i168:=by kernel_rfl
 i171:=by kernel_rfl
 i173:=by kernel_rfl
 i175:=by kernel_rfl
 i210:=by kernel_rfl
 i212:=by kernel_rfl
 i232:=by kernel_rfl
 i233:=by kernel_rfl
 m15:=by kernel_rfl
 m16:=by kernel_rfl
 m17:=by kernel_rfl
 m18:=by kernel_rfl
 m19:=by kernel_rfl
 c0:=by kernel_rfl
 c2:=by kernel_rfl
 c3:=by kernel_rfl
 c4:=by kernel_rfl
 c5:=by kernel_rfl
 c9:=by kernel_rfl
 c20:=by kernel_rfl
 c21:=by kernel_rfl
 c37:=by kernel_rfl
 c46:=by kernel_rfl
 c51:=by kernel_rfl
 c53:=by kernel_rfl
 c75:=by kernel_rfl
 c76:=by kernel_rfl
 c80:=by kernel_rfl
 c85:=by kernel_rfl
 c127:=by kernel_rfl
 c143:=by kernel_rfl
 c145:=by kernel_rfl
 c167:=by kernel_rfl
 c168:=by kernel_rfl
 c171:=by kernel_rfl
 c173:=by kernel_rfl
 c175:=by kernel_rfl
 c210:=by kernel_rfl
 c212:=by kernel_rfl
 c213:=by kernel_rfl
 c232:=by kernel_rfl
 c233:=by kernel_rfl }
open Go.RowKit in
theorem Tryz.strconv_Atoi_ok (s:ByteArray) (hmax:s.size≤9223372036854775806) (v:Int) (h:Lib.atoiAll s.data.toList= .ok v) (w:World):
 Calls Tryz.prog 101 #[.string s] w fun e w'=>e= .returned (.tuple #[.int .i64 v,.nilIface])∧(w'=w∨ ∃t,w'=Lib.bytesWorld w 5 t):=Any.strconv_Atoi_ok Tryz.laysC172 s hmax v h w
open Go.RowKit in
theorem Tryz.strconv_Atoi_syntax_var (s : ByteArray) (hlim : s.size ≤ 281474976710656) (h : ∀ n, Lib.atoiAll s.data.toList ≠ .ok n) (hr : Lib.atoiAll s.data.toList ≠ .range) (tp : TypeId) (p : Value) (w : World) (hvar : w.var? Tryz.prog "strconv.ErrSyntax" = some #[.iface tp p]) :
 Calls Tryz.prog 101 #[.string s] w fun e w'=> ∃N,e= .returned (.tuple #[.int .i64 0,.iface 272 (.pointer (some ⟨N,0,none⟩))])∧w.heap.size≤N∧w'.heap[N]? =some (.cells #[.string ⟨#[65,116,111,105]⟩,.string s,.iface tp p] 313 (0,0))∧Below w.heap.size w w':=by
 cases hq:Lib.atoiAll s.data.toList
 ·exact absurd hq (h _)
 ·exact Any.strconv_Atoi_syntax_var Tryz.laysC172 s hlim hq tp p w hvar
 ·exact absurd hq hr
open Go.RowKit in
theorem Tryz.strconv_Atoi_range_var (s : ByteArray) (hlim : s.size ≤ 281474976710656) (h : Lib.atoiAll s.data.toList = .range) (tp : TypeId) (p : Value) (w : World) (hvar : w.var? Tryz.prog "strconv.ErrRange" = some #[.iface tp p]) :
 Calls Tryz.prog 101 #[.string s] w fun e w'=> ∃N,e= .returned (.tuple #[.int .i64 (Lib.atoiSat s.data.toList),.iface 272 (.pointer (some ⟨N,0,none⟩))])∧w.heap.size≤N∧w'.heap[N]? =some (.cells #[.string ⟨#[65,116,111,105]⟩,.string s,.iface tp p] 313 (0,0))∧Below w.heap.size w w':=Any.strconv_Atoi_range_var Tryz.laysC172 s hlim h tp p w hvar
end Go.Proofs
namespace Go.Proofs.YtkipnpjagcfcpaaGreatDoor
open Go.RowKit
theorem below_drewN (w:World) (q:Nat):Below w.heap.size w (w.drewN q):=⟨rfl,rfl,rfl,Qn _,fun _ _=>rfl⟩
structure Glob (I:IH):Prop where
 pow:I 3=some (Lib.pow10Tab.map fun z=>Value.int .u64 z).toArray
 max:∃c m,I 0=some c∧c[0]? =some (.int .i64 m)
 syn:∃tp p,I 1=some #[.iface tp p]
 rng:∃tp p,I 2=some #[.iface tp p]
theorem Glob.mono {I I':IH} (h:Glob I) (k:∀b c,I b=some c→I' b=some c):Glob I':=
 ⟨k _ _ h.pow,(let ⟨c,m,h1,h2⟩:=h.max;⟨c,m,k _ _ h1,h2⟩),(let ⟨tp,p,h1⟩:=h.syn;⟨tp,p,k _ _ h1⟩),(let ⟨tp,p,h1⟩:=h.rng;⟨tp,p,k _ _ h1⟩)⟩
theorem Glob.maxlen {I:IH} {w:World} (h:Glob I) (hw:Ok I w):∃m,w.cell? ⟨0,0,none⟩=some (.int .i64 m):=by
 obtain ⟨c,m,h1,h2⟩:=h.max
 exact ⟨m,by rw [hw.cell h1];exact h2⟩
theorem Xs4 (l:List ByteArray):(l.map (·.data.toList)).map (fun b=>Value.string ⟨b.toArray⟩)=l.map Value.string:=by
 rw [List.map_map]
 apply List.map_congr_left
 intro b _
 simp
set_option maxRecDepth 100000 in
theorem Xqn (I:IH) (hI:Glob I) (s:Bytes) (hs:s.length≤4294967280) (w:World) (hw:Ok I w):
 Calls Tryz.prog 238 #[S s,S [47]] w (RetS tStr I w (elsGo [] s)):=by
 obtain ⟨m,hm⟩:=hI.maxlen hw
 have hsz:(⟨s.toArray⟩:ByteArray).size=s.length:=by simp [ByteArray.size]
 refine (Tryz.strings_Split ⟨s.toArray⟩ ⟨[47].toArray⟩ m w (by omega) hm (by decide)).mono fun e w' ⟨he,hq⟩=> ?_
 have hspl:=Xpn s
 have hdat:=Lib.splitB_data ⟨[47].toArray⟩ 0 (Lib.countB ⟨s.toArray⟩ ⟨[47].toArray⟩) ⟨s.toArray⟩
 have hall:(Lib.splitB ⟨[47].toArray⟩ 0 (Lib.countB ⟨s.toArray⟩ ⟨[47].toArray⟩) ⟨s.toArray⟩).map (·.data.toList)=elsGo [] s:=by rw [hdat,←hspl];rfl
 have hlen:Lib.countB ⟨s.toArray⟩ ⟨[47].toArray⟩+1=(elsGo [] s).length:=by
  rw [←hall,List.length_map]
  exact (Lib.splitB_all ⟨[47].toArray⟩ (by decide) 0 _ ⟨s.toArray⟩ rfl).symm
 have hcells:((Lib.splitB ⟨[47].toArray⟩ 0 (Lib.countB ⟨s.toArray⟩ ⟨[47].toArray⟩) ⟨s.toArray⟩).map Value.string)=(elsGo [] s).map fun b=>S b:=by
  rw [←hall,Xs4]
 have hcl:Lib.countB ⟨s.toArray⟩ ⟨[47].toArray⟩≤s.length:=by
  have:=Lib.countB_le ⟨[47].toArray⟩ (by decide) _ ⟨s.toArray⟩ (Qn _)
  rwa [hsz] at this
 rw [hcells] at hq
 rw [hlen] at he
 have hmax:(elsGo [] s).length≤9223372036854775807:=by omega
 generalize elsGo [] s=l at*
 subst hq
 have hb:=heap_alloc_new w (.cells (l.map fun b=>S b).toArray 9)
 refine ⟨_,I.add w.heap.size (l.map fun b=>S b).toArray,he,(Qb _ _).alloc (Qn _) _,Ext.add (Qn _) _ _,(hw.alloc _).add hb,_,l.length,rfl,Qn _,hmax,fun _=>⟨w.heap.size,0,(l.map fun b=>S b).toArray,rfl,by simp [IH.add],fun i hi=>⟨[S l[i]],rfl,fun j u hu=> ?_⟩⟩⟩
 have hj:j=0:=by have:=(List.getElem?_eq_some_iff.1 hu).1;simp at this;exact this
 subst hj
 obtain rfl:S l[i]=u:=by simpa using hu
 show ((l.map fun b=>S b).toArray)[0+(i*1+0)]? =_
 rw [show 0+(i*1+0)=i by omega,List.getElem?_toArray,List.getElem?_map,List.getElem?_eq_getElem hi]
 rfl
set_option maxRecDepth 100000 in
theorem Xf0 (g:Nat) (p:Nat→Bool) (s:Bytes) (w:World) (eg:∀args w,(callFunc g args).run Tryz.prog w= .ok (.enter g args) w) (hp:∀(x:Nat) (W:World),Calls Tryz.prog g #[.int .i32 (x:Int)] W fun e w'=>e= .returned (.bool (p x))∧w'=W):
 Calls Tryz.prog 245 #[S s,.func (.func g) #[] #[]] w fun e w'=>e= .returned (.bool (decide (0≤Lib.idxFunc p true ⟨s.toArray⟩)))∧Below w.heap.size w w':=
 Tryz.strings_ContainsFunc g #[] eg p ⟨s.toArray⟩ w fun W x _=>by
  have:=hp x W
  exact this.mono fun e w' ⟨h1,h2⟩=>⟨h1,0,h2⟩
set_option maxRecDepth 100000 in
theorem Xs8 (I:IH) (v:Value) (l:List Bytes) (hv:RdS tStr I v l) (hj:(joinP l).length≤4294967296) (hn:l.length≤4294967296) (w:World) (hw:Ok I w):
 Calls Tryz.prog 140 #[v,S [47]] w fun e w'=>e= .returned (S (joinP l))∧Below w.heap.size w w':=by
 obtain ⟨ao,cap,rfl,hcap,hcm,hh⟩:=id hv
 by_cases h0:l= []
 ·subst h0
  exact (Tryz.strings_Join_none ao cap ⟨[47].toArray⟩ w).mono fun e w' ⟨h1,h2⟩=>⟨h1,by rw [h2];exact Qb _ _⟩
 ·have hpos:0<l.length:=List.length_pos_iff.2 h0
  obtain ⟨b,off,arr,rfl,hI,hl⟩:=hh hpos
  have hx:(l.map fun s=>(⟨s.toArray⟩:ByteArray)).map (·.data.toList)=l:=by
   rw [List.map_map]
   conv=>rhs;rw [←List.map_id l]
   apply List.map_congr_left
   intro b _
   simp
  have hjl:Lib.join ((l.map fun s=>(⟨s.toArray⟩:ByteArray)).map (·.data.toList)) (⟨[47].toArray⟩:ByteArray).data.toList=joinP l:=by rw [hx];exact Xs9 l
  have h:=Tryz.strings_Join b off cap (l.map fun s=>⟨s.toArray⟩) ⟨[47].toArray⟩ w (fun j x hx=> ?_) (hw.lt hI) (by rw [List.length_map];omega) (by rw [List.length_map];exact hcap) (by rw [hjl];omega)
  ·rw [hjl,List.length_map] at h
   exact h
  ·rw [List.getElem?_map] at hx
   cases hlj:l[j]? with
   |none=>rw [hlj] at hx;simp at hx
   |some s=>
    rw [hlj] at hx
    simp at hx
    subst hx
    obtain ⟨hjl,hlj⟩:=List.getElem?_eq_some_iff.1 hlj
    obtain ⟨cs,h1,h2⟩:=hl j hjl
    have hcs:cs= [S l[j]]:=h1
    have:=h2 0 (S l[j]) (by rw [hcs];rfl)
    rw [hw.cell hI,←hlj]
    simpa [tStr,Ty.flat] using this
set_option maxRecDepth 100000 in
theorem Xqp (I:IH) (v1 v2:Value) (l m:List Bytes) (hv1:RdS tStr I v1 l) (hv2:RdS tStr I v2 m) (w:World) (hw:Ok I w):
 Calls Tryz.prog 261 #[v1,v2] w fun e w'=>e= .returned (.bool (decide (l=m)))∧Below w.heap.size w w':=by
 have hb1:=hv1.len_le
 have hb2:=hv2.len_le
 obtain ⟨ao,cap,rfl,hcap,hcm,hh⟩:=id hv1
 obtain ⟨ao2,cap2,rfl,hcap2,hcm2,hh2⟩:=id hv2
 by_cases hlm:l.length=m.length
 case neg=>
  refine (Tryz.slices_Equal_string_lens ao ao2 l.length cap m.length cap2 w hlm).mono fun e w' ⟨h1,h2⟩=>⟨?_,by rw [h2];exact Qb _ _⟩
  rw [h1,Qf]
  intro e;exact hlm (by rw [e])
 by_cases h0:l= []
 ·subst h0
  have hm:m= []:=List.eq_nil_of_length_eq_zero (by rw [←hlm];rfl)
  subst hm
  exact (Tryz.slices_Equal_string_empty ao ao2 cap 0 cap2 w (by decide)).mono fun e w' ⟨h1,h2⟩=>⟨h1,by rw [h2];exact Qb _ _⟩
 ·have hpos:0<l.length:=List.length_pos_iff.2 h0
  obtain ⟨b,off,arr,rfl,hI,hl⟩:=hh hpos
  obtain ⟨b2,off2,arr2,rfl,hI2,hl2⟩:=hh2 (by omega)
  have cellsOf:∀(l:List Bytes) (b off:Nat) (arr:Array Value),I b=some arr→Lies tStr I arr off l→ ∀j,j<(l.map fun s=>(⟨s.toArray⟩:ByteArray)).length→w.cell? ⟨b,off+j,none⟩=some (.string ((l.map fun s=>(⟨s.toArray⟩:ByteArray)).getD j ByteArray.empty)):=by
   intro l b off arr hI hl j hj
   rw [List.length_map] at hj
   obtain ⟨cs,h1,h2⟩:=hl j hj
   have hcs:cs= [S l[j]]:=h1
   have:=h2 0 (S l[j]) (by rw [hcs];rfl)
   rw [hw.cell hI,List.getD_eq_getElem?_getD,List.getElem?_map,List.getElem?_eq_getElem hj]
   simpa [tStr,Ty.flat] using this
  have h:=Tryz.slices_Equal_string b off l.length cap b2 off2 m.length cap2 (l.map fun s=>⟨s.toArray⟩) (m.map fun s=>⟨s.toArray⟩) w (by rw [List.length_map];exact Qn _) (by rw [List.length_map];exact Qn _) hb1 hb2 (cellsOf l b off arr hI hl) (cellsOf m b2 off2 arr2 hI2 hl2)
  refine h.mono fun e w' ⟨h1,q,h2⟩=>⟨?_,by rw [h2];exact below_drewN _ _⟩
  rw [h1]
  congr 2
  rw [decide_eq_decide,List.take_of_length_le (by simp),List.take_of_length_le (by simp)]
  constructor
  ·intro e
   have:=congrArg (List.map fun b:ByteArray=>b.data.toList) e
   rw [List.map_map,List.map_map] at this
   have hid:((fun b:ByteArray=>b.data.toList) ∘ fun s:Bytes=>(⟨s.toArray⟩:ByteArray))=id:=by funext s;simp
   rw [hid,List.map_id,List.map_id] at this
   exact this
  ·intro e;rw [e]
end Go.Proofs.YtkipnpjagcfcpaaGreatDoor
namespace Go.Proofs.YtkipnpjagcfcpaaGreatDoor
abbrev ltE (x y:Ent):Bool:=ltP (els x.path) (els y.path)
theorem Xfs {x y:Ent} (h:ltE x y=true):x.path≠y.path:=fun e=>Xko h (by rw [e])
theorem Xg3 (x y:Ent):ltE x y=true∨x.path=y.path∨ltE y x=true:=by
 rcases Xkn (els x.path) (els y.path) with h|h|h
 ·exact .inl h
 ·exact .inr (.inl (Xu9 h))
 ·exact .inr (.inr h)
def putTGo (e:Ent):Bool→List Ent→List Ent→List Ent
 |d,out,[]=>if d then out else out++ [e]
 |d,out,y::l=>putTGo e (d || !(ltE y e)) ((if !d&& !(ltE y e) then out++ [e] else out)++(if y.path==e.path then [] else [y])) l
def putT (t:List Ent) (e:Ent):List Ent:=putTGo e false [] t
def applyT (t:List Ent) (e:Ent):List Ent × Int:=
 if entErr e≠0 then ([],entErr e)
 else if 3<e.kind then
  if getT t e.path=none∧e.path≠ [] then ([],9)
  else if e.kind=4 then (t.filter fun x=> !(under x.path e.path),0) else (t,0)
 else if dirErr t (upP e.path)≠0 then ([],dirErr t (upP e.path))
 else match getT t e.path with
  |some y=>if (y.kind==2) != (e.kind==2) then ([],8) else (putT t e,0)
  |none=>if 5000≤t.length then ([],6) else (putT t e,0)
theorem Xgz (e:Ent) (l:List Ent):∀out,putTGo e true out l=out++l.filter fun y=> !(y.path==e.path):=by
 induction l with
 |nil=>intro out;simp [putTGo]
 |cons y l ih=>
  intro out
  rw [putTGo]
  simp only [Bool.true_or,Bool.not_true,Bool.false_and,Bool.false_eq_true,if_false]
  rw [ih,List.filter_cons]
  cases h:(y.path==e.path)<;>simp
theorem Xic {t:List Ent} (h:SrtT t) (e:Ent):∃A B,putT t e=A++e::B∧(∀a∈A,a∈t∧ltE a e=true)∧(∀b∈B,b∈t∧ltE e b=true)∧(∀z∈t,z.path≠e.path→z∈A∨z∈B)∧SrtT A∧SrtT B:=by
 have key:∀(l:List Ent),SrtT l→ ∀out,∃A B,putTGo e false out l=out++(A++e::B)∧(∀a∈A,a∈l∧ltE a e=true)∧(∀b∈B,b∈l∧ltE e b=true)∧(∀z∈l,z.path≠e.path→z∈A∨z∈B)∧SrtT A∧SrtT B:=by
  intro l
  induction l with
  |nil=>intro _ out;exact ⟨[],[],by simp [putTGo],by simp,by simp,by simp,List.Pairwise.nil,List.Pairwise.nil⟩
  |cons y l ih=>
   intro hs out
   obtain ⟨h1,h2⟩:=List.pairwise_cons.1 hs
   rw [putTGo]
   cases hb:ltE y e
   ·simp only [Bool.not_false,Bool.or_true,Bool.and_self,if_true]
    rw [Xgz]
    have hrest:∀z∈l,ltE e z=true:=by
     intro z hz
     rcases Xg3 e y with k|k|k
     ·exact Xch k (h1 z hz)
     ·show ltP (els e.path) _=true
      rw [k];exact h1 z hz
     ·rw [hb] at k;exact absurd k (by simp)
    have hf:(l.filter fun z=> !(z.path==e.path))=l:=List.filter_eq_self.2 fun z hz=>by
     have:=(Xfs (hrest z hz)).symm
     simpa using this
    rw [hf]
    by_cases k:y.path=e.path
    ·rw [if_pos (by simpa using k)]
     refine ⟨[],l,by simp,by simp,fun b hb=>⟨List.mem_cons_of_mem _ hb,hrest b hb⟩,fun z hz hne=> ?_,List.Pairwise.nil,h2⟩
     rcases List.mem_cons.1 hz with rfl|hz
     ·exact absurd k hne
     ·exact .inr hz
    ·have hxy:ltE e y=true:=by
      rcases Xg3 e y with h|h|h
      ·exact h
      ·exact absurd h.symm k
      ·rw [h] at hb;exact absurd hb (by simp)
     rw [if_neg (by simpa using k)]
     refine ⟨[],y::l,by simp,by simp,fun b hb=>⟨hb,?_⟩,fun z hz _=> .inr hz,List.Pairwise.nil,hs⟩
     rcases List.mem_cons.1 hb with rfl|hb
     ·exact hxy
     ·exact hrest b hb
   ·have hne:(y.path==e.path)=false:=by simpa using Xfs hb
    simp only [Bool.not_true,Bool.or_false,Bool.and_false,Bool.false_eq_true,if_false,hne]
    obtain ⟨A,B,q,a1,a2,a3,a4,a5⟩:=ih h2 (out++ [y])
    refine ⟨y::A,B,by rw [q];simp,fun a ha=> ?_,fun b hb=>⟨List.mem_cons_of_mem _ (a2 b hb).1,(a2 b hb).2⟩,fun z hz hzn=> ?_,List.pairwise_cons.2 ⟨fun a ha=>h1 a (a1 a ha).1,a4⟩,a5⟩
    ·rcases List.mem_cons.1 ha with rfl|ha
     ·exact ⟨List.mem_cons_self ..,hb⟩
     ·exact ⟨List.mem_cons_of_mem _ (a1 a ha).1,(a1 a ha).2⟩
    ·rcases List.mem_cons.1 hz with rfl|hz
     ·exact .inl (List.mem_cons_self ..)
     ·rcases a3 z hz hzn with h|h
      ·exact .inl (List.mem_cons_of_mem _ h)
      ·exact .inr h
 obtain ⟨A,B,q,r⟩:=key t h []
 exact ⟨A,B,q,r⟩
theorem Xex {t:List Ent} (h:SrtT t) (e:Ent):SrtT (putT t e):=by
 obtain ⟨A,B,q,a1,a2,_,a4,a5⟩:=Xic h e
 rw [q]
 refine List.pairwise_append.2 ⟨a4,List.pairwise_cons.2 ⟨fun b hb=>(a2 b hb).2,a5⟩,fun a ha b hb=> ?_⟩
 rcases List.mem_cons.1 hb with rfl|hb
 ·exact (a1 a ha).2
 ·exact Xch (a1 a ha).2 (a2 b hb).2
theorem Xb8 {t:List Ent} (h:SrtT t) (e z:Ent):z∈putT t e↔z=e∨(z∈t∧z.path≠e.path):=by
 obtain ⟨A,B,q,a1,a2,a3,_,_⟩:=Xic h e
 rw [q,List.mem_append,List.mem_cons]
 constructor
 ·rintro (hz|hz|hz)
  ·exact .inr ⟨(a1 z hz).1,Xfs (a1 z hz).2⟩
  ·exact .inl hz
  ·exact .inr ⟨(a2 z hz).1,(Xfs (a2 z hz).2).symm⟩
 ·rintro (hz|⟨hz,hn⟩)
  ·exact .inr (.inl hz)
  ·rcases a3 z hz hn with h|h
   ·exact .inl h
   ·exact .inr (.inr h)
theorem Xte {t:List Ent} (h:SrtT t) (e:Ent):getT (putT t e) e.path=some e:=Xf5 (Xex h e) ((Xb8 h e e).2 (.inl rfl))
theorem Xmp {t:List Ent} (h:SrtT t) (e:Ent) {p:Bytes} (hp:p≠e.path):getT (putT t e) p=getT t p:=by
 cases hg:getT t p with
 |some x=>
  obtain ⟨hx,rfl⟩:=Xkz hg
  exact Xf5 (Xex h e) ((Xb8 h e x).2 (.inr ⟨hx,hp⟩))
 |none=>
  refine Xqw fun z hz k=> ?_
  rcases (Xb8 h e z).1 hz with rfl|⟨hz,_⟩
  ·exact hp k.symm
  ·have:=Xf5 h hz
   rw [k,hg] at this
   exact absurd this (by simp)
end Go.Proofs.YtkipnpjagcfcpaaGreatDoor
namespace Go.Proofs.YtkipnpjagcfcpaaGreatDoor
theorem Xta {l:List Bytes} (h:l≠ []) (hc:∀p∈l,p≠ []):joinP l≠ []:=by
 cases l with
 |nil=>exact absurd rfl h
 |cons p l=>
  cases l with
  |nil=>exact hc p (by simp)
  |cons q l=>rw [Xcc p (by simp)];simp
theorem Xu7 {p:Bytes} (h:pathErr p=0):els (upP p)=(els p).dropLast:=by
 obtain ⟨_,_,hc⟩:=Xcb h
 have hd:∀q∈(els p).dropLast,comp q=true:=fun q hq=>hc q (List.dropLast_subset _ hq)
 unfold upP
 by_cases hn:(els p).dropLast= []
 ·rw [hn];rfl
 ·exact Xra (fun q hq=>Xlm (hd q hq)) (Xta hn fun q hq=>Xvf (hd q hq))
theorem Xr7 {p d:Bytes} (h:pathErr p=0) (hu:under (upP p) d=true):under p d=true:=by
 simp only [under,Bool.and_eq_true,decide_eq_true_eq] at hu ⊢
 obtain ⟨⟨_,h2⟩,h3⟩:=hu
 refine ⟨⟨h,h2⟩,?_⟩
 rw [List.isPrefixOf_iff_prefix] at h3 ⊢
 rw [Xu7 h] at h3
 exact h3.trans (List.dropLast_prefix _)
theorem Xb6 {e:Ent} (h:entErr e=0):1≤e.kind∧e.kind≤6∧pathErr e.path=0∧(e.path= []→5≤e.kind):=by
 unfold entErr at h
 by_cases h1:e.kind<1∨6<e.kind
 ·rw [if_pos h1] at h;omega
 rw [if_neg h1] at h
 by_cases h2:pathErr e.path=0
 case neg=>rw [if_pos h2] at h;exact absurd h h2
 rw [if_neg (by omega)] at h
 by_cases h3:e.path= []∧e.kind<5
 ·rw [if_pos h3] at h;omega
 exact ⟨by omega,by omega,h2,fun hp=>Int.not_lt.1 fun hk=>h3 ⟨hp,hk⟩⟩
theorem Xle {t:List Ent} {p:Bytes}:dirErr t p=0↔p= []∨ ∃x,getT t p=some x∧x.kind=2:=by
 unfold dirErr
 by_cases h:p= []
 ·rw [if_pos h];exact ⟨fun _=> .inl h,fun _=>rfl⟩
 ·rw [if_neg h]
  cases hg:getT t p with
  |none=>
   constructor
   ·intro k;simp at k
   ·rintro (k|⟨x,k,_⟩)
    ·exact absurd k h
    ·simp at k
  |some x=>
   show (if x.kind≠2 then (10:Int) else 0)=0↔_
   by_cases hk:x.kind=2
   ·rw [if_neg (by omega)];exact ⟨fun _=> .inr ⟨x,rfl,hk⟩,fun _=>rfl⟩
   ·rw [if_pos hk]
    constructor
    ·intro k;omega
    ·rintro (k|⟨y,k,k'⟩)
     ·exact absurd k h
     ·cases k;exact absurd k' hk
theorem Xqe {t:List Ent} (h:OkT t) {e:Ent} (he:entErr e=0) (hk:e.kind=1∨e.kind=2∨e.kind=3) (hu:dirErr t (upP e.path)=0) (hs:∀y,getT t e.path=some y→(y.kind=2↔e.kind=2)):OkT (putT t e):=by
 obtain ⟨_,_,hp,hpe⟩:=Xb6 he
 have hne:e.path≠ []:=fun k=>by have:=hpe k;omega
 refine ⟨fun z hz=> ?_,fun z hz=> ?_,Xex h.srt e,fun z hz=> ?_⟩
 ·rcases (Xb8 h.srt e z).1 hz with rfl|⟨hz,_⟩
  ·exact he
  ·exact h.ent z hz
 ·rcases (Xb8 h.srt e z).1 hz with rfl|⟨hz,_⟩
  ·exact hk
  ·exact h.kind z hz
 ·have hz':dirErr t (upP z.path)=0:=by
   rcases (Xb8 h.srt e z).1 hz with rfl|⟨hz,_⟩
   ·exact hu
   ·exact h.up z hz
  rw [Xle] at hz' ⊢
  rcases hz' with k|⟨x,k,k'⟩
  ·exact .inl k
  ·by_cases q:upP z.path=e.path
   ·refine .inr ⟨e,by rw [q];exact Xte h.srt e,?_⟩
    rw [q] at k
    exact (hs x k).1 k'
   ·exact .inr ⟨x,by rw [Xmp h.srt e q];exact k,k'⟩
theorem Xvb {t:List Ent} (h:OkT t) (d:Bytes):OkT (t.filter fun x=> !(under x.path d)):=by
 have hm:∀z,z∈(t.filter fun x=> !(under x.path d))↔z∈t∧under z.path d=false:=fun z=>by simp [List.mem_filter]
 have hs:SrtT (t.filter fun x=> !(under x.path d)):=List.Pairwise.filter _ h.srt
 refine ⟨fun z hz=>h.ent z ((hm z).1 hz).1,fun z hz=>h.kind z ((hm z).1 hz).1,hs,fun z hz=> ?_⟩
 obtain ⟨hz1,hz2⟩:=(hm z).1 hz
 have hp:=(Xb6 (h.ent z hz1)).2.2.1
 have hz':=h.up z hz1
 rw [Xle] at hz' ⊢
 rcases hz' with k|⟨x,k,k'⟩
 ·exact .inl k
 ·obtain ⟨hx,hxp⟩:=Xkz k
  refine .inr ⟨x,?_,k'⟩
  rw [←hxp]
  refine Xf5 hs ((hm x).2 ⟨hx,?_⟩)
  cases q:under x.path d with
  |false=>rfl
  |true=>
   rw [hxp] at q
   rw [Xr7 hp q] at hz2
   exact absurd hz2 (by simp)
theorem Xry {t t':List Ent} (h:OkT t) {e:Ent} (ha:applyT t e=(t',0)):OkT t':=by
 unfold applyT at ha
 by_cases h0:entErr e=0
 case neg=>rw [if_pos h0] at ha;exact absurd (Prod.mk.inj ha).2 h0
 rw [if_neg (by omega)] at ha
 have hk:=Xb6 h0
 by_cases h1:3<e.kind
 ·rw [if_pos h1] at ha
  by_cases h2:getT t e.path=none∧e.path≠ []
  ·rw [if_pos h2] at ha;simp at ha
  ·rw [if_neg h2] at ha
   by_cases h3:e.kind=4
   ·rw [if_pos h3] at ha
    rw [←(Prod.mk.inj ha).1]
    exact Xvb h _
   ·rw [if_neg h3] at ha
    rw [←(Prod.mk.inj ha).1]
    exact h
 ·rw [if_neg h1] at ha
  by_cases h2:dirErr t (upP e.path)=0
  case neg=>rw [if_pos h2] at ha;exact absurd (Prod.mk.inj ha).2 h2
  rw [if_neg (by omega)] at ha
  cases hg:getT t e.path with
  |none=>
   rw [hg] at ha
   change (if 5000≤t.length then (([]:List Ent),(6:Int)) else (putT t e,0))=_ at ha
   by_cases h3:5000≤t.length
   ·rw [if_pos h3] at ha;simp at ha
   ·rw [if_neg h3] at ha
    rw [←(Prod.mk.inj ha).1]
    exact Xqe h h0 (by omega) h2 fun y hy=>by rw [hg] at hy;cases hy
  |some y=>
   rw [hg] at ha
   change (if ((y.kind==2) != (e.kind==2))=true then (([]:List Ent),(8:Int)) else (putT t e,0))=_ at ha
   by_cases h3:((y.kind==2) != (e.kind==2))=true
   ·rw [if_pos h3] at ha;simp at ha
   ·rw [if_neg h3] at ha
    rw [←(Prod.mk.inj ha).1]
    refine Xqe h h0 (by omega) h2 fun z hz=> ?_
    rw [hg] at hz
    cases hz
    have h4:(y.kind==2)=(e.kind==2):=by simpa using h3
    constructor
    ·intro k;rw [k] at h4;simpa using h4.symm
    ·intro k;rw [k] at h4;simpa using h4
end Go.Proofs.YtkipnpjagcfcpaaGreatDoor
namespace Go.Proofs.YtkipnpjagcfcpaaGreatDoor
def opT (t:List Ent) (e:Ent):List Ent:=if 3<e.kind then (if e.kind=4 then t.filter fun x=> !(under x.path e.path) else t) else putT t e
structure PreT (t:List Ent) (e:Ent):Prop where
 ent:entErr e=0
 there:3<e.kind→ ¬(getT t e.path=none∧e.path≠ [])
 up:e.kind≤3→dirErr t (upP e.path)=0
 like:e.kind≤3→ ∀y,getT t e.path=some y→(y.kind==2)=(e.kind==2)
 room:e.kind≤3→getT t e.path=none→t.length<5000
theorem applyT_iff {t a:List Ent} {e:Ent}:applyT t e=(a,0)↔PreT t e∧a=opT t e:=by
 unfold applyT opT
 by_cases h0:entErr e=0
 case neg=>
  rw [if_pos h0]
  exact ⟨fun h=>absurd (Prod.mk.inj h).2 h0,fun h=>absurd h.1.ent h0⟩
 rw [if_neg (by omega)]
 by_cases h1:3<e.kind
 ·rw [if_pos h1,if_pos h1]
  by_cases h2:getT t e.path=none∧e.path≠ []
  ·rw [if_pos h2]
   exact ⟨fun h=>absurd (Prod.mk.inj h).2 (by decide),fun h=>absurd h2 (h.1.there h1)⟩
  ·rw [if_neg h2]
   have hp:PreT t e:=⟨h0,fun _=>h2,fun k=>by omega,fun k=>by omega,fun k=>by omega⟩
   by_cases h3:e.kind=4
   ·rw [if_pos h3,if_pos h3]
    exact ⟨fun h=>⟨hp,(Prod.mk.inj h).1.symm⟩,fun h=>by rw [h.2]⟩
   ·rw [if_neg h3,if_neg h3]
    exact ⟨fun h=>⟨hp,(Prod.mk.inj h).1.symm⟩,fun h=>by rw [h.2]⟩
 ·rw [if_neg h1,if_neg h1]
  by_cases h2:dirErr t (upP e.path)=0
  case neg=>
   rw [if_pos h2]
   exact ⟨fun h=>absurd (Prod.mk.inj h).2 h2,fun h=>absurd (h.1.up (by omega)) h2⟩
  rw [if_neg (by omega)]
  cases hg:getT t e.path with
  |none=>
   show (if 5000≤t.length then (([]:List Ent),(6:Int)) else (putT t e,0))=(a,0)↔_
   by_cases h3:5000≤t.length
   ·rw [if_pos h3]
    exact ⟨fun h=>absurd (Prod.mk.inj h).2 (by decide),fun h=>absurd (h.1.room (by omega) hg) (by omega)⟩
   ·rw [if_neg h3]
    exact ⟨fun h=>⟨⟨h0,fun k=>absurd k h1,fun _=>h2,fun _ y hy=>(by rw [hg] at hy;cases hy),fun _ _=>(by omega)⟩,(Prod.mk.inj h).1.symm⟩,fun h=>by rw [h.2]⟩
  |some y=>
   show (if ((y.kind==2) != (e.kind==2))=true then (([]:List Ent),(8:Int)) else (putT t e,0))=(a,0)↔_
   by_cases h3:((y.kind==2) != (e.kind==2))=true
   ·rw [if_pos h3]
    refine ⟨fun h=>absurd (Prod.mk.inj h).2 (by decide),fun h=> ?_⟩
    have:=h.1.like (by omega) y hg
    rw [this] at h3
    simp at h3
   ·rw [if_neg h3]
    exact ⟨fun h=>⟨⟨h0,fun k=>absurd k h1,fun _=>h2,fun _ z hz=>(by rw [hg] at hz;cases hz;simpa using h3),fun _ hn=>(by rw [hg] at hn;cases hn)⟩,(Prod.mk.inj h).1.symm⟩,fun h=>by rw [h.2]⟩
def keepT (e z:Ent):Prop:=(e.kind≤3→z.path≠e.path)∧(e.kind=4→under z.path e.path=false)
theorem Xuy {t:List Ent} (h:SrtT t) (e z:Ent):z∈opT t e↔(e.kind≤3∧z=e)∨(z∈t∧keepT e z):=by
 unfold opT keepT
 by_cases h1:3<e.kind
 ·rw [if_pos h1]
  by_cases h2:e.kind=4
  ·rw [if_pos h2,List.mem_filter]
   constructor
   ·rintro ⟨a,b⟩;exact .inr ⟨a,fun k=>by omega,fun _=>by simpa using b⟩
   ·rintro (⟨k,_⟩|⟨a,_,b⟩)
    ·omega
    ·exact ⟨a,by simpa using b h2⟩
  ·rw [if_neg h2]
   constructor
   ·intro a;exact .inr ⟨a,fun k=>by omega,fun k=>absurd k h2⟩
   ·rintro (⟨k,_⟩|⟨a,_⟩)
    ·omega
    ·exact a
 ·rw [if_neg h1,Xb8 h]
  constructor
  ·rintro (k|⟨a,b⟩)
   ·exact .inl ⟨by omega,k⟩
   ·exact .inr ⟨a,fun _=>b,fun k=>by omega⟩
  ·rintro (⟨_,k⟩|⟨a,b,_⟩)
   ·exact .inl k
   ·exact .inr ⟨a,b (by omega)⟩
theorem Xsw (t:List Ent) (e:Ent):(putT t e).length≤t.length+1:=by
 have:∀(l out:List Ent) (d:Bool),(putTGo e d out l).length≤out.length+l.length+1:=by
  intro l
  induction l with
  |nil=>intro out d;cases d<;>simp [putTGo]
  |cons y l ih=>
   intro out d
   rw [putTGo]
   cases hc:(!d&& !(ltE y e))
   ·refine Nat.le_trans (ih _ _) ?_
    cases h:(y.path==e.path)<;>simp<;>omega
   ·have hd:(d || !(ltE y e))=true:=by
     simp only [Bool.and_eq_true] at hc
     rw [hc.2];simp
    rw [hd,Xgz]
    have:=List.length_filter_le (fun y:Ent=> !(y.path==e.path)) l
    cases h:(y.path==e.path)<;>simp<;>omega
 simpa [putT] using this t [] false
theorem Xuz (t:List Ent) (e:Ent):(opT t e).length≤t.length+1:=by
 unfold opT
 by_cases h1:3<e.kind
 ·rw [if_pos h1]
  by_cases h2:e.kind=4
  ·rw [if_pos h2];exact Nat.le_trans (List.length_filter_le _ _) (Nat.le_succ _)
  ·rw [if_neg h2];exact Nat.le_succ _
 ·rw [if_neg h1];exact Xsw t e
end Go.Proofs.YtkipnpjagcfcpaaGreatDoor
namespace Go.Proofs.YtkipnpjagcfcpaaGreatDoor
def bs (p:Nat→Bool) (lo hi:Nat):Nat:=
 if h:lo<hi then (if p ((lo+hi) / 2) then bs p lo ((lo+hi) / 2) else bs p ((lo+hi) / 2+1) hi) else lo
termination_by hi-lo
decreasing_by all_goals omega
theorem Xrt (p:Nat→Bool) (lo hi:Nat) (h:lo≤hi):lo≤bs p lo hi∧bs p lo hi≤hi:=by
 induction lo,hi using bs.induct p with
 |case1 lo hi hlt hp ih=>rw [bs,dif_pos hlt,if_pos hp];have:=ih (by omega);omega
 |case2 lo hi hlt hp ih=>rw [bs,dif_pos hlt,if_neg hp];have:=ih (by omega);omega
 |case3 lo hi hlt=>rw [bs,dif_neg hlt];omega
theorem Xrs (p:Nat→Bool) (lo hi:Nat) (h:lo≤hi):(lo<bs p lo hi→p (bs p lo hi-1)=false)∧(bs p lo hi<hi→p (bs p lo hi)=true):=by
 induction lo,hi using bs.induct p with
 |case1 lo hi hlt hp ih=>
  rw [bs,dif_pos hlt,if_pos hp]
  have h1:=ih (by omega)
  refine ⟨h1.1,fun h2=> ?_⟩
  by_cases h3:bs p lo ((lo+hi) / 2)<(lo+hi) / 2
  ·exact h1.2 h3
  ·have:=Xrt p lo ((lo+hi) / 2) (by omega)
   rw [show bs p lo ((lo+hi) / 2)=(lo+hi) / 2 by omega];exact hp
 |case2 lo hi hlt hp ih=>
  rw [bs,dif_pos hlt,if_neg hp]
  have h1:=ih (by omega)
  refine ⟨fun h2=> ?_,h1.2⟩
  by_cases h3:(lo+hi) / 2+1<bs p ((lo+hi) / 2+1) hi
  ·exact h1.1 h3
  ·have:=Xrt p ((lo+hi) / 2+1) hi (by omega)
   rw [show bs p ((lo+hi) / 2+1) hi-1=(lo+hi) / 2 by omega];simpa using hp
 |case3 lo hi hlt=>rw [bs,dif_neg hlt];exact ⟨fun h=>by omega,fun h=>by omega⟩
theorem Xsv {t:List Ent} (h:SrtT t) (e:Ent) {i:Nat} (hi:i<t.length) (hp:t[i].path=e.path):putT t e=t.set i e:=by
 have hle:∀(a:Ent),ltE a e=ltE a t[i]:=fun a=>by unfold ltE;rw [hp]
 have hle2:∀(a:Ent),ltE e a=ltE t[i] a:=fun a=>by unfold ltE;rw [hp]
 have hpw:=List.pairwise_iff_getElem.1 h
 have hsrt:SrtT (t.set i e):=by
  refine List.pairwise_iff_getElem.2 fun a b ha hb hab=> ?_
  rw [List.length_set] at ha hb
  have h0:=hpw a b ha hb hab
  rw [List.getElem_set,List.getElem_set]
  by_cases h1:i=a
  ·subst h1
   rw [if_pos rfl,if_neg (by omega)]
   show ltE e t[b]=true
   rw [hle2];exact h0
  ·rw [if_neg h1]
   by_cases h2:i=b
   ·subst h2
    rw [if_pos rfl]
    show ltE t[a] e=true
    rw [hle];exact h0
   ·rw [if_neg h2];exact h0
 refine SrtT.ext (Xex h e) hsrt fun z=> ?_
 rw [Xb8 h]
 constructor
 ·rintro (rfl|⟨hz,hne⟩)
  ·exact List.mem_set hi _
  ·obtain ⟨j,hj,rfl⟩:=List.getElem_of_mem hz
   have hij:i≠j:=fun e2=>hne (by subst e2;exact hp)
   have:(t.set i e)[j]'(by rw [List.length_set];exact hj)=t[j]:=List.getElem_set_ne hij _
   rw [←this]
   exact List.getElem_mem _
 ·intro hz
  obtain ⟨j,hj,rfl⟩:=List.getElem_of_mem hz
  rw [List.length_set] at hj
  rw [List.getElem_set]
  by_cases hij:i=j
  ·rw [if_pos hij];exact .inl rfl
  ·rw [if_neg hij]
   refine .inr ⟨List.getElem_mem _,fun he=> ?_⟩
   have hne:t[j].path≠t[i].path:=by
    rcases Nat.lt_or_gt_of_ne hij with h1|h1
    ·exact (Xfs (hpw i j hi hj h1)).symm
    ·exact Xfs (hpw j i hj hi h1)
   exact hne (he.trans hp.symm)
theorem Xsx {t:List Ent} (h:SrtT t) (e:Ent) {i:Nat} (hi:i≤t.length) (hl:∀k (hk:k<t.length),k<i→ltE t[k] e=true) (hg:∀k (hk:k<t.length),i≤k→ltE e t[k]=true):putT t e=t.take i++e::t.drop i:=by
 have hpw:=List.pairwise_iff_getElem.1 h
 have hsrt:SrtT (t.take i++e::t.drop i):=by
  refine List.pairwise_append.2 ⟨List.Pairwise.sublist (List.take_sublist _ _) h,List.pairwise_cons.2 ⟨fun b hb=> ?_,List.Pairwise.sublist (List.drop_sublist _ _) h⟩,fun a ha b hb=> ?_⟩
  ·obtain ⟨j,hj,rfl⟩:=List.getElem_of_mem hb
   rw [List.getElem_drop]
   exact hg _ (by simp at hj;omega) (by omega)
  ·obtain ⟨j,hj,rfl⟩:=List.getElem_of_mem ha
   have hj2:j<i∧j<t.length:=by simp at hj;omega
   rw [List.getElem_take]
   rcases List.mem_cons.1 hb with rfl|hb
   ·exact hl j hj2.2 hj2.1
   ·obtain ⟨q,hq,rfl⟩:=List.getElem_of_mem hb
    rw [List.getElem_drop]
    exact hpw j (i+q) hj2.2 (by simp at hq;omega) (by omega)
 refine SrtT.ext (Xex h e) hsrt fun z=> ?_
 rw [Xb8 h,List.mem_append,List.mem_cons]
 constructor
 ·rintro (rfl|⟨hz,hne⟩)
  ·exact .inr (.inl rfl)
  ·rw [←List.take_append_drop i t,List.mem_append] at hz
   rcases hz with hz|hz
   ·exact .inl hz
   ·exact .inr (.inr hz)
 ·rintro (hz|rfl|hz)
  ·obtain ⟨j,hj,rfl⟩:=List.getElem_of_mem hz
   have hj2:j<i∧j<t.length:=by simp at hj;omega
   rw [List.getElem_take]
   exact .inr ⟨List.getElem_mem _,Xfs (hl j hj2.2 hj2.1)⟩
  ·exact .inl rfl
  ·obtain ⟨j,hj,rfl⟩:=List.getElem_of_mem hz
   rw [List.getElem_drop]
   exact .inr ⟨List.getElem_mem _,(Xfs (hg (i+j) (by simp at hj;omega) (by omega))).symm⟩
def notLess (t:List Ent) (p:Bytes) (i:Nat):Bool:=match t[i]? with|some x=> !(ltP (els x.path) (els p))|none=>true
theorem Xuw {t:List Ent} (h:SrtT t) (e:Ent) (hn:∀x∈t,x.path≠e.path):putT t e=t.take (bs (notLess t e.path) 0 t.length)++e::t.drop (bs (notLess t e.path) 0 t.length):=by
 have hle:=Xrt (notLess t e.path) 0 t.length (Nat.zero_le _)
 have hsp:=Xrs (notLess t e.path) 0 t.length (Nat.zero_le _)
 generalize bs (notLess t e.path) 0 t.length=i at hle hsp
 have hpw:=List.pairwise_iff_getElem.1 h
 refine Xsx h e hle.2 (fun k hk hki=> ?_) (fun k hk hik=> ?_)
 ·have h1:=hsp.1 (by omega)
  rw [notLess,List.getElem?_eq_getElem (by omega)] at h1
  have h2:ltE (t[i-1]'(by omega)) e=true:=by simpa using h1
  by_cases hk2:k=i-1
  ·subst hk2;exact h2
  ·exact Xch (hpw k (i-1) hk (by omega) (by omega)) h2
 ·have h1:=hsp.2 (by omega)
  rw [notLess,List.getElem?_eq_getElem (by omega)] at h1
  have h2:ltE (t[i]'(by omega)) e=false:=by simpa using h1
  have h3:ltE e (t[i]'(by omega))=true:=by
   rcases Xg3 e (t[i]'(by omega)) with h3|h3|h3
   ·exact h3
   ·exact absurd h3.symm (hn _ (List.getElem_mem _))
   ·rw [h2] at h3;exact absurd h3 (by simp)
  by_cases hk2:k=i
  ·subst hk2;exact h3
  ·exact Xch h3 (hpw i k (by omega) hk (by omega))
end Go.Proofs.YtkipnpjagcfcpaaGreatDoor
namespace Go.Proofs.YtkipnpjagcfcpaaGreatDoor
structure Ho where
 p:Bytes
 u:Int
 deriving DecidableEq
def actP (l:List Ho) (d:Int):List Ho:=l.filter fun h=>decide (d≤h.u)
def heldP (l:List Ho) (p:Bytes) (d:Int):Bool:=(actP l d).any fun h=>under p h.p
def belowP (l:List Ho) (p:Bytes) (d:Int):Bool:=(actP l d).any fun h=>under h.p p
def alwP (l:List Ho) (k:Int) (p:Bytes) (d:Int):Int:=
 if k=1∨k=2∨k=3 then (if heldP l p d then 15 else 0) else if k=4 then (if heldP l p d || belowP l p d then 15 else 0) else 0
def restH (l:List Ho) (p:Bytes):List Ho:=l.filter fun h=> !(h.p==p)
def insH (h:Ho):List Ho→List Ho
 | []=> [h]
 |x::l=>if ltP (els h.p) (els x.p) then h::x::l else x::insH h l
def untilH (p:Bytes):List Ho→Int→Int
 | [],u=>u
 |h::l,u=>untilH p l (if h.p=p then max u h.u else u)
def hasH (l:List Ho) (p:Bytes):Bool:=l.any fun h=>h.p==p
def appH (l:List Ho) (e:Ent) (d:Int):List Ho × Int:=
 if e.kind=5 then (insH ⟨e.path,untilH e.path (actP l d) (digits e.target)⟩ (restH (actP l d) e.path),0)
 else if e.kind=6 then (if hasH (actP l d) e.path then (restH (actP l d) e.path,0) else ([],9))
 else (actP l d,0)
structure HOk (l:List Ho):Prop where
 ne:l.Pairwise fun a b=>a.p≠b.p
 u0:∀h∈l,0≤h.u
 u1:∀h∈l,h.u≤1000000000
 path:∀h∈l,pathErr h.p=0
theorem Xqt:HOk []:=⟨List.Pairwise.nil,fun _ h=>(by cases h),fun _ h=>(by cases h),fun _ h=>(by cases h)⟩
theorem HOk.sub {l m:List Ho} (h:HOk l) (hs:m.Sublist l):HOk m:=⟨h.ne.sublist hs,fun x hx=>h.u0 x (hs.subset hx),fun x hx=>h.u1 x (hs.subset hx),fun x hx=>h.path x (hs.subset hx)⟩
theorem HOk.act {l:List Ho} (h:HOk l) (d:Int):HOk (actP l d):=h.sub List.filter_sublist
theorem HOk.rest {l:List Ho} (h:HOk l) (p:Bytes):HOk (restH l p):=h.sub List.filter_sublist
theorem Xe2 (h:Ho):∀ {l:List Ho} {x:Ho},x∈insH h l↔x=h∨x∈l
 | [],x=>by simp [insH]
 |y::l,x=>by
  rw [insH]
  split
  ·rw [List.mem_cons]
  ·rw [List.mem_cons,Xe2 h,List.mem_cons]
   constructor
   ·rintro (k|k|k)
    ·exact .inr (.inl k)
    ·exact .inl k
    ·exact .inr (.inr k)
   ·rintro (k|k|k)
    ·exact .inr (.inl k)
    ·exact .inl k
    ·exact .inr (.inr k)
theorem Xni (h:Ho):∀l:List Ho,(insH h l).length=l.length+1
 | []=>rfl
 |y::l=>by
  rw [insH]
  split
  ·rfl
  ·rw [List.length_cons,Xni h l,List.length_cons]
theorem Xqs {h:Ho}:∀ {l:List Ho},l.Pairwise (fun a b=>a.p≠b.p)→(∀x∈l,x.p≠h.p)→(insH h l).Pairwise fun a b=>a.p≠b.p
 | [],_,_=>List.pairwise_singleton _ _
 |y::l,hl,hn=>by
  rw [insH]
  obtain ⟨h1,h2⟩:=List.pairwise_cons.1 hl
  split
  ·exact List.pairwise_cons.2 ⟨fun x hx k=>hn x hx k.symm,hl⟩
  ·refine List.pairwise_cons.2 ⟨fun x hx=> ?_,Xqs h2 fun x hx=>hn x (List.mem_cons_of_mem _ hx)⟩
   rcases (Xe2 h).1 hx with rfl|hx
   ·exact hn y (List.mem_cons_self ..)
   ·exact h1 x hx
theorem Xsr {l:List Ho} {p:Bytes}:∀x∈restH l p,x.p≠p:=fun x hx k=>by
 have:=(List.mem_filter.1 hx).2
 rw [k] at this
 simp at this
theorem Xgh (p:Bytes):∀(l:List Ho) (u:Int),(∀h∈l,0≤h.u∧h.u≤1000000000)→0≤u→u≤1000000000→0≤untilH p l u∧untilH p l u≤1000000000
 | [],u,_,h0,h1=>⟨h0,h1⟩
 |h::l,u,hl,h0,h1=>by
  have hh:=hl h (List.mem_cons_self ..)
  have hr:=fun x hx=>hl x (List.mem_cons_of_mem _ hx)
  rw [untilH]
  split
  ·exact Xgh p l _ hr (by omega) (by omega)
  ·exact Xgh p l _ hr h0 h1
theorem Xlj {s:Bytes} (h:dateOk s=true):0≤digits s∧digits s≤1000000000:=by
 unfold dateOk at h
 simp only [Bool.and_eq_true,decide_eq_true_eq] at h
 refine ⟨?_,h.2⟩
 have h0:=h.1.2
 unfold digits
 have key:∀(l:Bytes) (a:Int),0≤a→(l.all fun c=>decide (48≤c)&&decide (c≤57))=true→0≤l.foldl (fun (n:Int) c=>10*n+((c.toNat:Int)-48)) a:=by
  intro l
  induction l with
  |nil=>intro a ha _;exact ha
  |cons c l ih=>
   intro a ha hl
   rw [List.all_cons,Bool.and_eq_true] at hl
   rw [List.foldl_cons]
   have h48:(48:UInt8)≤c:=by
    have:=hl.1
    simp only [Bool.and_eq_true,decide_eq_true_eq] at this
    exact this.1
   have h48':48≤c.toNat:=h48
   exact ih _ (by omega) hl.2
 exact key s 0 (by omega) h0
theorem Xkw {e:Ent} (he:entErr e=0) (hk:e.kind=5):dateOk e.target=true:=by
 unfold entErr at he
 rw [if_neg (by omega)] at he
 by_cases h1:pathErr e.path≠0
 ·rw [if_pos h1] at he;exact absurd he h1
 rw [if_neg h1] at he
 split at he
 ·omega
 by_cases h2:chk e.attrs≠0
 ·rw [if_pos h2] at he;exact absurd he h2
 rw [if_neg h2] at he
 split at he
 ·omega
 rename_i h3
 have ht:targetOk e=true:=by
  cases hh:targetOk e with
  |true=>rfl
  |false=>exact absurd (.inr hh) h3
 unfold targetOk at ht
 rw [if_neg (by omega),if_pos hk] at ht
 exact ht
theorem Xv1 {l m:List Ho} {e:Ent} {d n:Int} (h:HOk l) (he:entErr e=0) (ha:appH l e d=(m,n)):HOk m:=by
 unfold appH at ha
 by_cases h5:e.kind=5
 ·rw [if_pos h5] at ha
  obtain ⟨rfl,rfl⟩:=Prod.mk.inj ha
  have hr:=(h.act d).rest e.path
  have hd:=Xlj (Xkw he h5)
  have hu:=Xgh e.path (actP l d) (digits e.target) (fun x hx=>⟨(h.act d).u0 x hx,(h.act d).u1 x hx⟩) hd.1 hd.2
  refine ⟨Xqs hr.ne fun x hx=>Xsr x hx,fun x hx=> ?_,fun x hx=> ?_,fun x hx=> ?_⟩
  ·rcases (Xe2 _).1 hx with rfl|hx
   ·exact hu.1
   ·exact hr.u0 x hx
  ·rcases (Xe2 _).1 hx with rfl|hx
   ·exact hu.2
   ·exact hr.u1 x hx
  ·rcases (Xe2 _).1 hx with rfl|hx
   ·exact (Xb6 he).2.2.1
   ·exact hr.path x hx
 ·rw [if_neg h5] at ha
  split at ha
  ·split at ha
   ·obtain ⟨rfl,rfl⟩:=Prod.mk.inj ha
    exact (h.act d).rest e.path
   ·obtain ⟨rfl,rfl⟩:=Prod.mk.inj ha
    exact Xqt
  ·obtain ⟨rfl,rfl⟩:=Prod.mk.inj ha
   exact h.act d
theorem Xt3 {l m:List Ho} {e:Ent} {d n:Int} (ha:appH l e d=(m,n)):m.length≤l.length+1:=by
 have h1:(actP l d).length≤l.length:=List.length_filter_le _ _
 have h2:∀p,(restH (actP l d) p).length≤(actP l d).length:=fun p=>List.length_filter_le _ _
 have h3:=h2 e.path
 unfold appH at ha
 split at ha
 ·obtain ⟨rfl,rfl⟩:=Prod.mk.inj ha
  rw [Xni];omega
 ·split at ha
  ·split at ha
   ·obtain ⟨rfl,rfl⟩:=Prod.mk.inj ha;omega
   ·obtain ⟨rfl,rfl⟩:=Prod.mk.inj ha;simp
  ·obtain ⟨rfl,rfl⟩:=Prod.mk.inj ha;omega
def wasH (p:Bytes):List Ho→Int→Int
 | [],u=>u
 |h::l,u=>wasH p l (if h.p=p then h.u else u)
theorem rest_len {l:List Ho} {p:Bytes}:((restH l p).length=l.length)↔hasH l p=false:=by
 unfold restH hasH
 rw [List.length_filter_eq_length_iff,List.any_eq_false]
 constructor
 ·intro h x hx
  have:=h x hx
  simpa using this
 ·intro h x hx
  have:=h x hx
  simpa using this
end Go.Proofs.YtkipnpjagcfcpaaGreatDoor
namespace Go.Proofs.YtkipnpjagcfcpaaGreatDoor
def listT (t:List Ent) (p:Bytes):List Ent:=t.filter fun x=>decide (pathErr x.path=0)&&decide (x.path≠ [])&&(upP x.path==p)
def lastP (p:Bytes):Bytes:=(els p).getLastD []
section
variable (H net:Bytes→Bytes) (num:Int→Bytes) (nm:Int→Bytes)
def frontP (x:Ent):Bytes:=net (nm x.kind)++(num x.attrs.length++x.attrs.flatMap fun a=>net a.k++net a.v)
def merkF:Nat→List Ent→Ent→Bytes
 |0,_,_=> []
 |n+1,t,x=>if x.kind=2 then H (frontP net num nm x++num (listT t x.path).length++(listT t x.path).flatMap fun y=>net (lastP y.path)++net (merkF n t y))
  else H (frontP net num nm x++net x.target++num x.size++net x.digest)
end
end Go.Proofs.YtkipnpjagcfcpaaGreatDoor
namespace Go.Proofs.YtkipnpjagcfcpaaGreatDoor
def netP (s:Bytes):Bytes:=Lib.itoa s.length++ [58]++s++ [44]
def netsP:List Bytes→Bytes
 | []=> []
 |s::l=>netP s++netsP l
def numP (n:Int):Bytes:=Lib.itoa n++ [32]
theorem Xfr (l m:List Bytes):netsP (l++m)=netsP l++netsP m:=by
 induction l with
 |nil=>rfl
 |cons s l ih=>rw [List.cons_append,netsP,netsP,ih,List.append_assoc]
theorem Xff (n w:Nat) (hn:n<10 ^ w) (hw:1≤w):Lib.nDigits n≤w:=by
 induction w generalizing n with
 |zero=>omega
 |succ w ih=>
  by_cases h:n<10
  ·rw [Lib.nDigits_small h];omega
  ·rw [Lib.nDigits_big h]
   rw [Nat.pow_succ] at hn
   rcases Nat.eq_zero_or_pos w with h0|h0
   ·subst h0;simp at hn;omega
   ·have:=ih (n / 10) (by omega) h0;omega
theorem Xdx (n:Nat) (h:n≤140737488355328):(Lib.itoa (n:Int)).length≤16:=by
 have:Lib.itoa (n:Int)=Lib.decDigits n:=by simp [Lib.itoa]
 rw [this,Lib.decDigits_length]
 exact Xff n 16 (by omega) (by omega)
theorem Xaq (s:Bytes) (h:s.length≤100000000):(netP s).length≤s.length+18:=by
 have:=Xdx s.length (by omega)
 simp [netP];omega
theorem Xbg (n:Nat) (h:n≤140737488355328):(numP n).length≤17:=by
 have:=Xdx n h
 simp [numP];omega
structure DgOk (x:Ent):Prop where
 kind:x.kind=1∨x.kind=2∨x.kind=3
 natt:x.attrs.length≤16
 att:∀a∈x.attrs,a.k.length≤32∧a.v.length≤64
 target:x.target.length≤200
 s0:0≤x.size
 s1:x.size≤65536
 digest:x.digest.length≤32
 path:x.path.length≤200
 deep:(els x.path).length≤8
theorem Xhp:∀ {l:List At} {p:Option At},chkFrom p l=0→ ∀a∈l,a.k.length≤32∧a.v.length≤64
 | [],_,_,a,ha=>by cases ha
 |x::l,p,h,a,ha=>by
  unfold chkFrom at h
  by_cases h1:atErr x≠0
  ·rw [if_pos h1] at h;exact absurd h h1
  rw [if_neg h1] at h
  split at h
  ·omega
  split at h
  ·omega
  rcases List.mem_cons.1 ha with rfl|ha
  ·have h2:atErr a=0:=by omega
   unfold atErr at h2
   split at h2
   ·omega
   rename_i hk
   split at h2
   ·omega
   simp [keyOk] at hk
   omega
  ·exact Xhp h a ha
theorem Xvu {l:List At} (h:chk l=0):l.length≤16∧ ∀a∈l,a.k.length≤32∧a.v.length≤64:=by
 unfold chk at h
 split at h
 ·omega
 ·exact ⟨by omega,Xhp h⟩
def rootE:Ent:=⟨2,[],[],[],0,[],[]⟩
def Deep (n:Nat) (x:Ent):Prop:=10≤(els x.path).length+n
section
variable (H:Bytes→Bytes) (hH:∀s,(H s).length≤32)
abbrev merkP (n:Nat) (t:List Ent) (x:Ent):Bytes:=merkF H netP numP nameP n t x
abbrev frontN (x:Ent):Bytes:=frontP netP numP nameP x
theorem Xe1 (k:Int):(nameP k).length≤7:=by
 unfold nameP
 repeat' split
 all_goals simp
def attP (l:List At):Bytes:=numP l.length++l.flatMap fun a=>netP a.k++netP a.v
theorem Xjv:∀(l:List At),(∀a∈l,a.k.length≤32∧a.v.length≤64)→(l.flatMap fun a=>netP a.k++netP a.v).length≤132*l.length
 | [],_=>by simp
 |a::l,h=>by
  have h1:=h a (List.mem_cons_self ..)
  have h2:=Xjv l fun b hb=>h b (List.mem_cons_of_mem _ hb)
  have h3:=Xaq a.k (by omega)
  have h4:=Xaq a.v (by omega)
  simp only [List.flatMap_cons,List.length_append,List.length_cons]
  omega
theorem Xty {l:List At} (hn:l.length≤16) (h:∀a∈l,a.k.length≤32∧a.v.length≤64):(attP l).length≤2200:=by
 have h1:=Xjv l h
 have h2:=Xbg l.length (by omega)
 unfold attP
 rw [List.length_append]
 omega
def dirText (n:Nat) (t:List Ent) (x:Ent) (l:List Ent):Bytes:=frontN x++numP (listT t x.path).length++l.flatMap fun y=>netP (lastP y.path)++netP (merkP H n t y)
end
end Go.Proofs.YtkipnpjagcfcpaaGreatDoor
namespace Go.Proofs.YtkipnpjagcfcpaaGreatDoor
open Go.RowKit
def rotr (d m x:Int):Int:=bits .or .u32 (x / d) (x*m%4294967296)
theorem Xct (k:IntKind) (x y:Int):bits .or k x y=bits .or k y x:=by
 simp only [bits,BitVec.or_comm]
def RotAt (k d m:Int):Prop:=(k=16∧d=65536∧m=65536)∨(k=12∧d=4096∧m=1048576)∨(k=8∧d=256∧m=16777216)∨(k=7∧d=128∧m=33554432)
set_option maxRecDepth 100000 in
theorem Xe8 (x:Int) (k d m:Int) (hk:RotAt k d m) (w:World):
 Calls Tryz.prog 269 #[.int .u32 x,.int .i64 (-k)] w fun e w'=>e= .returned (.int .u32 (rotr d m x))∧w'=w:=by
 rcases hk with ⟨rfl,rfl,rfl⟩|⟨rfl,rfl,rfl⟩|⟨rfl,rfl,rfl⟩|⟨rfl,rfl,rfl⟩
 ·have e1:IntKind.u64.wrap (-16)=18446744073709551600:=by decide
  have e2:bits .and .u64 18446744073709551600 31=16:=by decide
  go_enter Tryz.func269,Tryz.ntmps269
  go_wp2
  go_ret
  exact ⟨Xag (Xct _ _ _),rfl⟩
 ·have e1:IntKind.u64.wrap (-12)=18446744073709551604:=by decide
  have e2:bits .and .u64 18446744073709551604 31=20:=by decide
  go_enter Tryz.func269,Tryz.ntmps269
  go_wp2
  go_ret
  exact ⟨Xag (Xct _ _ _),rfl⟩
 ·have e1:IntKind.u64.wrap (-8)=18446744073709551608:=by decide
  have e2:bits .and .u64 18446744073709551608 31=24:=by decide
  go_enter Tryz.func269,Tryz.ntmps269
  go_wp2
  go_ret
  exact ⟨Xag (Xct _ _ _),rfl⟩
 ·have e1:IntKind.u64.wrap (-7)=18446744073709551609:=by decide
  have e2:bits .and .u64 18446744073709551609 31=25:=by decide
  go_enter Tryz.func269,Tryz.ntmps269
  go_wp2
  go_ret
  exact ⟨Xag (Xct _ _ _),rfl⟩
set_option maxRecDepth 100000 in
theorem Xkd (x:Int) (k d m:Int) (hk:RotAt k d m) (w:World):
 Calls Tryz.prog 270 #[.int .u32 x,.int .u64 k] w fun e w'=>e= .returned (.int .u32 (rotr d m x))∧w'=w:=by
 rcases hk with ⟨rfl,rfl,rfl⟩|⟨rfl,rfl,rfl⟩|⟨rfl,rfl,rfl⟩|⟨rfl,rfl,rfl⟩
 all_goals
  go_enter Tryz.func270,Tryz.ntmps270
  go_wp2
  go_ret
  exact ⟨Xag rfl,rfl⟩
def row (l:List Int):Array Value:=(l.map fun x=>Value.int .u32 x).toArray
@[simp] theorem row_size (l:List Int):(row l).size=l.length:=by simp [row]
theorem Xa7 {l:List Int} {i:Nat} (h:i<l.length):(row l)[i]? =some (.int .u32 (l.getD i 0)):=by
 simp [row,List.getD,List.getElem?_eq_getElem h]
theorem Xus (l:List Int) (i:Nat) (v:Int):(row l).setIfInBounds i (.int .u32 v)=row (l.set i v):=by
 simp [row,List.map_set]
theorem heap_setCell {w:World} {b i:Nat} {l:List Int} {t:TypeId} {f:Nat × Nat} (v:Int) (h:w.heap[b]? =some (.cells (row l) t f)):(w.setCell ⟨b,i,none⟩ (.int .u32 v)).heap[b]? =some (.cells (row (l.set i v)) t f):=by
 unfold World.setCell
 rw [Array.getElem?_modify,if_pos rfl,h]
 simp [Xus]
theorem Xb9 (w:World) (a:Addr) (u:Value):w.grownBy (w.setCell a u) (some a.block):=
 ⟨rfl,rfl,rfl,by simp [World.setCell],fun k _ hne=>Below.heap_setCell _ _ _ _ (fun e=>hne (by rw [e]))⟩
theorem Xmo {B:Nat} {w w':World} {r:Option Nat} (h:Below B w w') (hB:w.heap.size≤B):w.grownBy w' r:=
 ⟨h.os,h.tape,h.output,h.size,fun k hk _=>h.block k (by omega)⟩
theorem Xda {w w1 w2:World} {r:Option Nat} (h:w.grownBy w1 r) (k:w1.grownBy w2 r):w.grownBy w2 r:=
 ⟨k.os.trans h.os,k.tape.trans h.tape,k.output.trans h.output,Nat.le_trans h.size k.size,fun j hj hne=>(k.block j (Nat.lt_of_lt_of_le hj h.size) hne).trans (h.block j hj hne)⟩
theorem Xoq {w w':World} {r:Option Nat} (h:w.grownBy w' r):w.grownBy w'.drew r:=⟨h.os,h.tape,h.output,h.size,h.block⟩
def mixW (a b c d x y:Int):Int × Int × Int × Int:=
 let a1:=(a+(b+x))%4294967296
 let d1:=rotr 65536 65536 (bits .xor .u32 d a1)
 let c1:=(c+d1)%4294967296
 let b1:=rotr 4096 1048576 (bits .xor .u32 b c1)
 let a2:=(a1+(b1+y))%4294967296
 let d2:=rotr 256 16777216 (bits .xor .u32 d1 a2)
 let c2:=(c1+d2)%4294967296
 (a2,rotr 128 33554432 (bits .xor .u32 b1 c2),c2,d2)
def mixP (l:List Int) (a b c d:Nat) (x y:Int):List Int:=
 let r:=mixW (l.getD a 0) (l.getD b 0) (l.getD c 0) (l.getD d 0) x y
 (((l.set a r.1).set b r.2.1).set c r.2.2.1).set d r.2.2.2
theorem Xee (l:List Int) (a b c d:Nat) (x y:Int):(mixP l a b c d x y).length=l.length:=by simp [mixP]
end Go.Proofs.YtkipnpjagcfcpaaGreatDoor
