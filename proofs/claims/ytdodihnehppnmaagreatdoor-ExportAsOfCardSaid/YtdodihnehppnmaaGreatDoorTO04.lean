/-
  Walks and laws that the claim's theorem uses: texts EnD, joined; comments out. Conditions: as each theorem says.
-/
import Derived.Test.YtdodihnehppnmaaGreatDoorTO03
set_option linter.all false
namespace Go.Proofs.YtdodihnehppnmaaGreatDoor
open Go.RowKit
theorem Xcw {l:Bytes} (h:l≠ []):(l== [])=false∧l.isEmpty=false∧(!l.isEmpty)=true∧(l != [])=true:=by
 cases l with
 |nil=>exact absurd rfl h
 |cons a l=>exact ⟨rfl,rfl,rfl,rfl⟩
theorem Xdv {l:Bytes} (h:l= []):(l== [])=true∧l.isEmpty=true∧(!l.isEmpty)=false∧(l != [])=false:=by
 subst h;exact ⟨rfl,rfl,rfl,rfl⟩
theorem Xbv (x:Xt) (l:List Xt):xtsErr true (x::l)=if xtBad x then 2 else xtsErr true l:=rfl
set_option maxRecDepth 100000 in
set_option maxHeartbeats 4000000 in
theorem Xby (I:IH) (x:Ent) (va vx:Value) (hva:RdS tAt I va x.attrs) (hvx:RdS tXt I vx x.exts) (hwf:x.Wf) (w:World) (hw:Ok I w):
 Calls Tryz.prog 100 #[entV x va vx] w fun e w'=>e= .returned (.int .i64 (entErrR x))∧Below w.heap.size w w':=by
 have hlx:=hvx.len_le
 have hla:=hva.len_le
 obtain ⟨ao,cap,rfl,hcap,hcm,_⟩:=id hvx
 obtain ⟨ao2,cap2,rfl,hcap2,hcm2,_⟩:=id hva
 have Hvx:=Qh hvx
 have Hva:=Qh hva
 clear hvx hva
 have Hnm:=Qh (fun w=>Xi2 x.kind w)
 have Hpc:=Qh (fun w hw=>Xdj I x.path w hw)
 have Hac:=Qh (fun w hw=>Xm9 I _ x.attrs Hva.out hwf.attrs w hw)
 have Htg:=Qh (fun w=>Xkw x hwf.target (.slice ao2 x.attrs.length cap2) (.slice ao x.exts.length cap) w)
 have hs0:=hwf.s0
 have hs1:=hwf.s1
 have hp1:=hwf.path
 have hd1:=hwf.digest
 have hxw:=Qh hwf.exts
 clear hwf
 have hnn:=nameP_nil (k:=x.kind)
 by_cases hk:x.kind<1∨6<x.kind
 case pos=>
  have Hn:=Qh (show entErrR x=10 by rw [entErrR,if_pos hk])
  rw [hnn.2 hk] at Hnm
  clear hnn hk
  go_enter Tryz.func100,Tryz.ntmps100
  go_wp2_with fail
  refine (Hnm.out _).mono ?_
  rintro e w1 ⟨rfl,rfl⟩
  go_wp2
  go_ret
  exact ⟨Xac Hn.out.symm,(Qb _ _).alloc (Qn _) _⟩
 have He:=Qh (show entErrR x=_ by rw [entErrR,if_neg hk])
 obtain ⟨nm,hnm⟩:∃s,nameP x.kind=s:=⟨_,rfl⟩
 have hnz:nm≠ []:=fun e=>hk (hnn.1 (by rw [hnm,e]))
 rw [hnm] at Hnm
 have n1:(nm== [])=false:=by simpa using hnz
 have n2:nm.isEmpty=false:=by cases nm<;>simp_all
 have n3:(!nm.isEmpty)=true:=by rw [n2];rfl
 clear hnn hnm hnz
 by_cases hpe:pathErr x.path=0
 case neg=>
  obtain ⟨q,hq⟩:∃q,pathErr x.path=q:=⟨_,rfl⟩
  have hn:(q != 0)=true:=by rw [←hq];simpa using hpe
  have Hn:=Qh (show entErrR x=q by rw [He.out,if_pos hpe,hq])
  rw [hq] at Hpc
  clear hq hpe
  go_enter Tryz.func100,Tryz.ntmps100
  go_wp2_with fail
  refine (Hnm.out _).mono ?_
  rintro e w0 ⟨rfl,rfl⟩
  go_wp2_with fail
  refine (Hpc.out _ (hw.alloc _)).mono ?_
  rintro e w1 ⟨rfl,hb1⟩
  have hb1':Below w.heap.size w w1:=((Qb _ _).alloc (Qn _) _).trans (hb1.mono (by simp))
  have hsz1:w.heap.size<w1.heap.size:=by have:=hb1.size;simp at this;omega
  have hok1:Ok I w1:=(hw.alloc _).below (Qn _) hb1
  obtain ⟨c0,c1,c2,c3,c4,c5,c6⟩:=entB rfl hb1
  clear hb1
  go_wp2
  go_ret
  exact ⟨Xac Hn.out.symm,hb1'⟩
 replace He:=Qh (show entErrR x=_ by rw [He.out,if_neg (show ¬pathErr x.path≠0 by omega)])
 rw [hpe] at Hpc
 clear hpe
 by_cases he5:x.path= []∧x.kind<5
 case pos=>
  have Hn:=Qh (show entErrR x=1 by rw [He.out,if_pos he5])
  have p1:(x.path== [])=true:=by rw [he5.1];rfl
  have p2:x.path.isEmpty=true:=by rw [he5.1];rfl
  have p3:(!x.path.isEmpty)=false:=by rw [he5.1];rfl
  have hk5:=he5.2
  clear he5
  go_enter Tryz.func100,Tryz.ntmps100
  go_wp2_with fail
  refine (Hnm.out _).mono ?_
  rintro e w0 ⟨rfl,rfl⟩
  go_wp2_with fail
  refine (Hpc.out _ (hw.alloc _)).mono ?_
  rintro e w1 ⟨rfl,hb1⟩
  have hb1':Below w.heap.size w w1:=((Qb _ _).alloc (Qn _) _).trans (hb1.mono (by simp))
  have hsz1:w.heap.size<w1.heap.size:=by have:=hb1.size;simp at this;omega
  have hok1:Ok I w1:=(hw.alloc _).below (Qn _) hb1
  obtain ⟨c0,c1,c2,c3,c4,c5,c6⟩:=entB rfl hb1
  clear hb1
  go_wp2
  go_ret
  exact ⟨Xac Hn.out.symm,hb1'⟩
 replace He:=Qh (show entErrR x=_ by rw [He.out,if_neg he5])
 have hpp:((x.path== [])=true∧x.path.isEmpty=true∧(!x.path.isEmpty)=false∧5≤x.kind)∨((x.path== [])=false∧x.path.isEmpty=false∧(!x.path.isEmpty)=true):=by
  by_cases h:x.path= []
  ·left;exact ⟨by rw [h];rfl,by rw [h];rfl,by rw [h];rfl,Int.not_lt.1 fun h2=>he5 ⟨h,h2⟩⟩
  ·right
   have h2:x.path.isEmpty=false:=by cases hp:x.path<;>simp_all
   exact ⟨by simpa using h,h2,by rw [h2];rfl⟩
 clear he5
 go_enter Tryz.func100,Tryz.ntmps100
 go_wp2_with fail
 refine (Hnm.out _).mono ?_
 rintro e w0 ⟨rfl,rfl⟩
 go_wp2_with fail
 refine (Hpc.out _ (hw.alloc _)).mono ?_
 rintro e w1 ⟨rfl,hb1⟩
 have hb1':Below w.heap.size w w1:=((Qb _ _).alloc (Qn _) _).trans (hb1.mono (by simp))
 have hsz1:w.heap.size<w1.heap.size:=by have:=hb1.size;simp at this;omega
 have hok1:Ok I w1:=(hw.alloc _).below (Qn _) hb1
 obtain ⟨c0,c1,c2,c3,c4,c5,c6⟩:=entB rfl hb1
 clear hb1
 clear Hnm Hpc n1 n2 n3
 go_upto_region 6 with fail
 go_cut [26] (fun s26 wx=>s26= .bool false∧w1=wx)
 case first=>
  rcases hpp with ⟨p1,p2,p3,p4⟩|⟨p1,p2,p3⟩
  all_goals
   go_wp2_with fail
   go_meet
   exact ⟨(by first|rfl|(congr 1;exact Qf (by omega))),rfl⟩
 case rest=>
  obtain ⟨rfl,hcut⟩:=hcut
  subst hcut
  clear hpp
  go_wp2_with fail
  refine (Hac.out _ hok1).mono ?_
  rintro e w2 ⟨rfl,hb2⟩
  have hb2':=hb1'.trans (hb2.mono (Nat.le_of_lt hsz1))
  have hsz2:w.heap.size<w2.heap.size:=by have:=hb2.size;omega
  have hok2:Ok I w2:=hok1.below (Qn _) hb2
  obtain ⟨c0,c1,c2,c3,c4,c5,c6⟩:=EntB.thru (⟨c0,c1,c2,c3,c4,c5,c6⟩:EntB w1 w.heap.size x _ _) hb2
  clear hb2 hb1' hsz1 hok1
  by_cases hca:chk x.attrs=0
  case neg=>
   obtain ⟨q,hq⟩:∃q,chk x.attrs=q:=⟨_,rfl⟩
   have hn:(q != 0)=true:=by rw [←hq];simpa using hca
   have Hn:=Qh (show entErrR x=q by rw [He.out,if_pos hca,hq])
   rw [hq]
   clear hq hca
   go_wp2
   go_ret
   exact ⟨Xac Hn.out.symm,hb2'⟩
  replace He:=Qh (show entErrR x=_ by rw [He.out,if_neg (show ¬chk x.attrs≠0 by omega)])
  rw [hca]
  clear hca Hac
  go_upto_region 11 with fail
  go_cut [46] (fun s46 wx=> ∃w3,w3=wx∧(s46= .bool true∧entErrR x=1∨s46= .bool false∧ ¬((x.attrs≠ []∧3<x.kind)∨targetOk x=false))∧Below w2.heap.size w2 w3)
  case first=>
   have hmain:x.attrs.length<1∨(0<x.attrs.length∧3<x.kind)∨(0<x.attrs.length∧x.kind≤3):=by omega
   rcases hmain with ha|⟨ha,hk3⟩|⟨ha,hk3⟩
   ·have d0:decide (0<x.attrs.length)=false:=Qf (by omega)
    have Ha0:=Qh (show x.attrs= [] from List.eq_nil_of_length_eq_zero (by omega))
    go_wp2_with fail
    refine (Htg.out _).mono ?_
    rintro e w3 ⟨rfl,hb3⟩
    cases htg:targetOk x
    ·have Hn:=Qh (show entErrR x=1 by rw [He.out,if_pos (.inr htg)])
     clear htg
     go_wp2_with fail
     go_meet
     exact ⟨_,rfl,.inl ⟨rfl,Hn.out⟩,hb3⟩
    ·go_wp2_with fail
     go_meet
     refine ⟨_,rfl,.inr ⟨(by first|rfl|(congr 1;exact Qf (by omega))),?_⟩,hb3⟩
     rintro (⟨h1,h2⟩|h1)
     ·first
       |exact h1 Ha0.out
       |omega
     ·rw [htg] at h1;exact absurd h1 (by simp)
   ·have d0:decide (0<x.attrs.length)=true:=Qt ha
    have Hn:=Qh (show entErrR x=1 by rw [He.out,if_pos (.inl ⟨by intro e;rw [e] at ha;simp at ha,hk3⟩)])
    go_wp2_with fail
    go_meet
    exact ⟨_,rfl,.inl ⟨(by first|rfl|(congr 1;exact Qt (by omega))),Hn.out⟩,Qb _ _⟩
   ·have d0:decide (0<x.attrs.length)=true:=Qt ha
    go_wp2_with fail
    refine (Htg.out _).mono ?_
    rintro e w3 ⟨rfl,hb3⟩
    cases htg:targetOk x
    ·have Hn:=Qh (show entErrR x=1 by rw [He.out,if_pos (.inr htg)])
     clear htg
     go_wp2_with fail
     go_meet
     exact ⟨_,rfl,.inl ⟨rfl,Hn.out⟩,hb3⟩
    ·go_wp2_with fail
     go_meet
     refine ⟨_,rfl,.inr ⟨(by first|rfl|(congr 1;exact Qf (by omega))),?_⟩,hb3⟩
     rintro (⟨h1,h2⟩|h1)
     ·first
       |exact h1 Ha0.out
       |omega
     ·rw [htg] at h1;exact absurd h1 (by simp)
  case rest=>
   obtain ⟨w3,hw3,htt,hb3⟩:=hcut
   subst hw3
   have hb3':=hb2'.trans (hb3.mono (Nat.le_of_lt hsz2))
   have hsz3:w.heap.size<w3.heap.size:=by have:=hb3.size;omega
   have hok3:Ok I w3:=hok2.below (Qn _) hb3
   obtain ⟨c0,c1,c2,c3,c4,c5,c6⟩:=EntB.thru (⟨c0,c1,c2,c3,c4,c5,c6⟩:EntB w2 w.heap.size x _ _) hb3
   clear hb3 hb2' hsz2 hok2 Htg
   rcases htt with ⟨rfl,hn⟩|⟨rfl,htt⟩
   ·have Hn:=Qh hn
    clear hn
    go_wp2
    go_ret
    exact ⟨Xac Hn.out.symm,hb3'⟩
   replace He:=Qh (show entErrR x=_ by rw [He.out,if_neg htt])
   clear htt
   by_cases hf:x.kind=1
   ·have f1:((x.kind:Int)==1)=true:=by simpa using hf
    go_upto_region 14 with fail
    go_cut [66] (fun s66 wx=>w3=wx∧(s66= .bool true∧entErrR x=2∨s66= .bool false∧ ¬(x.size<0∨65536<x.size∨(x.kind≠1∧x.size≠0))))
    case first=>
     have hmain:x.size<0∨65536<x.size∨(0≤x.size∧x.size≤65536∧x.kind≠1∧x.size≠0)∨(0≤x.size∧x.size≤65536∧(x.kind=1∨x.size=0)):=by omega
     rcases hmain with h|h|⟨h,h',h2,h3⟩|⟨h,h',h2⟩
     ·have Hn:=Qh (show entErrR x=2 by rw [He.out,if_pos (by omega)])
      clear hf
      go_wp2_with fail
      go_meet
      exact ⟨rfl,.inl ⟨(by first|rfl|(congr 1;simp;omega)),Hn.out⟩⟩
     ·have Hn:=Qh (show entErrR x=2 by rw [He.out,if_pos (by omega)])
      clear hf
      go_wp2_with fail
      go_meet
      exact ⟨rfl,.inl ⟨(by first|rfl|(congr 1;simp;omega)),Hn.out⟩⟩
     ·first
      |exact absurd hf h2
      |(have Hn:=Qh (show entErrR x=2 by rw [He.out,if_pos (by omega)])
        have g1:(x.size != 0)=true:=by simpa using h3
        clear hf h2 h3
        go_wp2_with fail
        go_meet
        exact ⟨rfl,.inl ⟨(by first|rfl|(congr 1;simp;omega)),Hn.out⟩⟩)
     ·have Hn:=Qh (show ¬(x.size<0∨65536<x.size∨(x.kind≠1∧x.size≠0)) by omega)
      have g2:x.kind=1∨(x.size != 0)=false:=h2.imp id (fun e=>by simp [e])
      rcases g2 with g2|g2
      all_goals
       first
       |exact absurd g2 hf
       |(clear hf h2
         go_wp2_with fail
         go_meet
         exact ⟨rfl,.inr ⟨(by first|rfl|(congr 1;simp;omega)),Hn.out⟩⟩)
    case rest=>
     obtain ⟨hw3,htt⟩:=hcut
     subst hw3
     rcases htt with ⟨rfl,hn⟩|⟨rfl,htt⟩
     ·have Hn:=Qh hn
      clear hn
      go_wp2
      go_ret
      exact ⟨Xac Hn.out.symm,hb3'⟩
     replace He:=Qh (show entErrR x=_ by rw [He.out,if_neg htt])
     have Hsz:=Qh (show 0≤x.size∧x.size≤65536∧(x.kind=1∨x.size=0) by omega)
     clear htt
     go_upto_region 16 with fail
     go_cut [82] (fun s82 wx=>w3=wx∧(s82= .bool true∧entErrR x=1∨s82= .bool false∧ ¬((x.kind=1∧x.digest.length≠32)∨(x.kind≠1∧x.digest≠ []))))
     case first=>
      by_cases hbad:(x.kind=1∧x.digest.length≠32)∨(x.kind≠1∧x.digest≠ [])
      ·have Hn:=Qh (show entErrR x=1 by rw [He.out,if_pos hbad])
       have hz:(((x.digest.length:Int) != 32)=true∧x.kind=1)∨(((x.digest== [])=false∧x.digest.isEmpty=false∧(!x.digest.isEmpty)=true∧(x.digest != [])=true)∧x.kind≠1):=by
        rcases hbad with ⟨h1,h2⟩|⟨h1,h2⟩
        ·left;exact ⟨by rw [bne_iff_ne];omega,h1⟩
        ·right
         exact ⟨Xcw h2,h1⟩
       clear hbad
       rcases hz with ⟨z1,z2⟩|⟨⟨z1,z3,z4,z5⟩,z2⟩
       all_goals
        first
        |exact absurd z2 hf
        |exact absurd hf z2
        |(clear hf z2
          go_wp2_with fail
          go_meet
          exact ⟨rfl,.inl ⟨(by first|rfl|(congr 1;simp;omega)),Hn.out⟩⟩)
      ·have hz:(((x.digest.length:Int) != 32)=false∧x.kind=1)∨(((x.digest== [])=true∧x.digest.isEmpty=true∧(!x.digest.isEmpty)=false∧(x.digest != [])=false)∧x.kind≠1):=by
        by_cases h1:x.kind=1
        ·left
         have h2:x.digest.length=32:=Classical.byContradiction fun h=>hbad (.inl ⟨h1,h⟩)
         exact ⟨by rw [h2];rfl,h1⟩
        ·right
         exact ⟨Xdv (Classical.byContradiction fun h=>hbad (.inr ⟨h1,h⟩)),h1⟩
       have Hn:=Qh hbad
       clear hbad
       rcases hz with ⟨z1,z2⟩|⟨⟨z1,z3,z4,z5⟩,z2⟩
       all_goals
        first
        |exact absurd z2 hf
        |exact absurd hf z2
        |(clear hf z2
          go_wp2_with fail
          go_meet
          exact ⟨rfl,.inr ⟨(by first|rfl|(congr 1;simp;omega)),Hn.out⟩⟩)
     case rest=>
      obtain ⟨hw3,htt⟩:=hcut
      subst hw3
      rcases htt with ⟨rfl,hn⟩|⟨rfl,htt⟩
      ·have Hn:=Qh hn
       clear hn
       go_wp2
       go_ret
       exact ⟨Xac Hn.out.symm,hb3'⟩
      replace He:=Qh (show entErrR x=if xtsErr true x.exts≠0 then xtsErr true x.exts else if sumW x.exts≠x.size then 1 else 0 by rw [He.out,if_neg htt,f1])
      clear htt
      have hBx:=Qh (⟨c0,c1,c2,c3,c4,c5,c6⟩:EntB w3 w.heap.size x _ _)
      clear c0 c1 c2 c3 c4 c5 c6
      have HB:=Qh hb3'
      clear hb3'
      go_wp2_with fail
      go_loopw [6,7] (fun s6 s7 wr=> ∃k:Nat,k≤x.exts.length∧s7= .int .i64 k∧s6= .int .i64 (sumW (x.exts.take k))∧xtsErr true (x.exts.drop k)=xtsErr true x.exts∧Below w3.heap.size w3 wr) (fun _ i _=>x.exts.length-(intOf i).toNat)
      case atStart=>exact ⟨0,Nat.zero_le _,rfl,rfl,rfl,Qb _ _⟩
      case round=>
       obtain ⟨k,hk,rfl,rfl,hr,hb⟩:=hrel
       have Hr:=Qh hr;clear hr
       have hwr:Ok I wr:=hok3.below (Qn _) hb
       obtain ⟨c0,c1,c2,c3,c4,c5,c6⟩:=hBx.out.thru hb
       obtain ⟨sm,hsm⟩:∃s,sumW (x.exts.take k)=s:=⟨_,rfl⟩
       by_cases hlt:k<x.exts.length
       ·obtain ⟨y,b,off,cap',hly,hvv,e0,e1,e2⟩:=xtAt Hvx.out hwr k hlt
        cases hvv
        have Hdr:=Qh (show x.exts.drop k=y::x.exts.drop (k+1) by rw [List.drop_eq_getElem_cons hlt,hly])
        have Hst:=Qh (show entErrR x=if (if xtBad y then 2 else xtsErr true (x.exts.drop (k+1)))≠0 then (if xtBad y then 2 else xtsErr true (x.exts.drop (k+1))) else if sumW x.exts≠x.size then 1 else 0 by
         rw [He.out,←Hr.out,Hdr.out,Xbv])
        have Hsm:=Qh (show sumW (x.exts.take (k+1))=wrap64 (sm+y.n) by rw [List.take_succ_eq_append_getElem hlt,hly,Xko,hsm])
        rw [hsm]
        clear hly hsm
        by_cases h1:y.s<0
        ·have Hbad:=Qh (show entErrR x=2 by rw [Hst.out,if_pos (show xtBad y=true by unfold xtBad;simp;omega)];rfl)
         go_wp2
         go_ret
         exact ⟨Xac Hbad.out.symm,HB.out.trans ((hb.alloc hb.size _).mono HB.out.size)⟩
        by_cases h2:255<y.s
        ·have Hbad:=Qh (show entErrR x=2 by rw [Hst.out,if_pos (show xtBad y=true by unfold xtBad;simp;omega)];rfl)
         go_wp2
         go_ret
         exact ⟨Xac Hbad.out.symm,HB.out.trans ((hb.alloc hb.size _).mono HB.out.size)⟩
        by_cases h3:y.o<0
        ·have Hbad:=Qh (show entErrR x=2 by rw [Hst.out,if_pos (show xtBad y=true by unfold xtBad;simp;omega)];rfl)
         go_wp2
         go_ret
         exact ⟨Xac Hbad.out.symm,HB.out.trans ((hb.alloc hb.size _).mono HB.out.size)⟩
        by_cases h4:2147483647<y.o
        ·have Hbad:=Qh (show entErrR x=2 by rw [Hst.out,if_pos (show xtBad y=true by unfold xtBad;simp;omega)];rfl)
         go_wp2
         go_ret
         exact ⟨Xac Hbad.out.symm,HB.out.trans ((hb.alloc hb.size _).mono HB.out.size)⟩
        by_cases h5:y.n<1
        ·have Hbad:=Qh (show entErrR x=2 by rw [Hst.out,if_pos (show xtBad y=true by unfold xtBad;simp;omega)];rfl)
         go_wp2
         go_ret
         exact ⟨Xac Hbad.out.symm,HB.out.trans ((hb.alloc hb.size _).mono HB.out.size)⟩
        by_cases h6:65536<y.n
        ·have Hbad:=Qh (show entErrR x=2 by rw [Hst.out,if_pos (show xtBad y=true by unfold xtBad;simp;omega)];rfl)
         go_wp2
         go_ret
         exact ⟨Xac Hbad.out.symm,HB.out.trans ((hb.alloc hb.size _).mono HB.out.size)⟩
        by_cases h7:y.s=0
        ·have g7:(y.s==0)=true:=by simpa using h7
         by_cases h8:y.o=0
         ·have g8:(y.o != 0)=false:=by simpa using h8
          have Hnx:=Qh (show xtsErr true (x.exts.drop (k+1))=xtsErr true x.exts by
           rw [←Hr.out,Hdr.out,Xbv,if_neg (show ¬xtBad y=true by unfold xtBad;simp;omega)])
          go_wp2
          go_roundw
          case rel=>exact ⟨k+1,by omega,by go_num,by rw [Hsm.out],Hnx.out,hb.alloc hb.size _⟩
          case measure=>simp [intOf];omega
         ·have g8:(y.o != 0)=true:=by simpa using h8
          have Hbad:=Qh (show entErrR x=2 by rw [Hst.out,if_pos (show xtBad y=true by unfold xtBad;simp;omega)];rfl)
          go_wp2
          go_ret
          exact ⟨Xac Hbad.out.symm,HB.out.trans ((hb.alloc hb.size _).mono HB.out.size)⟩
        ·have g7:(y.s==0)=false:=by simpa using h7
         have Hnx:=Qh (show xtsErr true (x.exts.drop (k+1))=xtsErr true x.exts by
          rw [←Hr.out,Hdr.out,Xbv,if_neg (show ¬xtBad y=true by unfold xtBad;simp;omega)])
         go_wp2
         go_roundw
         case rel=>exact ⟨k+1,by omega,by go_num,by rw [Hsm.out],Hnx.out,hb.alloc hb.size _⟩
         case measure=>simp [intOf];omega
       ·have hall:x.exts.take k=x.exts:=List.take_of_length_le (by omega)
        have hdn:x.exts.drop k= []:=List.drop_of_length_le (by omega)
        rw [hall] at hsm
        have Hn:=Qh (show entErrR x=if sm≠x.size then 1 else 0 by rw [He.out,←Hr.out,hdn,if_neg (by simp [xtsErr]),hsm])
        rw [hall,hsm]
        clear hall hdn hsm
        by_cases hq:sm=x.size
        ·have q1:(sm != x.size)=false:=by simpa using hq
         have Hn2:=Qh (show entErrR x=0 by rw [Hn.out,if_neg (by simpa using hq)])
         clear hq
         go_wp2
         go_ret
         exact ⟨Xac Hn2.out.symm,HB.out.trans (hb.mono HB.out.size)⟩
        ·have q1:(sm != x.size)=true:=by simpa using hq
         have Hn2:=Qh (show entErrR x=1 by rw [Hn.out,if_pos hq])
         clear hq
         go_wp2
         go_ret
         exact ⟨Xac Hn2.out.symm,HB.out.trans (hb.mono HB.out.size)⟩
   ·have f1:((x.kind:Int)==1)=false:=by simpa using hf
    go_upto_region 14 with fail
    go_cut [66] (fun s66 wx=>w3=wx∧(s66= .bool true∧entErrR x=2∨s66= .bool false∧ ¬(x.size<0∨65536<x.size∨(x.kind≠1∧x.size≠0))))
    case first=>
     have hmain:x.size<0∨65536<x.size∨(0≤x.size∧x.size≤65536∧x.kind≠1∧x.size≠0)∨(0≤x.size∧x.size≤65536∧(x.kind=1∨x.size=0)):=by omega
     rcases hmain with h|h|⟨h,h',h2,h3⟩|⟨h,h',h2⟩
     ·have Hn:=Qh (show entErrR x=2 by rw [He.out,if_pos (by omega)])
      clear hf
      go_wp2_with fail
      go_meet
      exact ⟨rfl,.inl ⟨(by first|rfl|(congr 1;simp;omega)),Hn.out⟩⟩
     ·have Hn:=Qh (show entErrR x=2 by rw [He.out,if_pos (by omega)])
      clear hf
      go_wp2_with fail
      go_meet
      exact ⟨rfl,.inl ⟨(by first|rfl|(congr 1;simp;omega)),Hn.out⟩⟩
     ·first
      |exact absurd hf h2
      |(have Hn:=Qh (show entErrR x=2 by rw [He.out,if_pos (by omega)])
        have g1:(x.size != 0)=true:=by simpa using h3
        clear hf h2 h3
        go_wp2_with fail
        go_meet
        exact ⟨rfl,.inl ⟨(by first|rfl|(congr 1;simp;omega)),Hn.out⟩⟩)
     ·have Hn:=Qh (show ¬(x.size<0∨65536<x.size∨(x.kind≠1∧x.size≠0)) by omega)
      have g2:x.kind=1∨(x.size != 0)=false:=h2.imp id (fun e=>by simp [e])
      rcases g2 with g2|g2
      all_goals
       first
       |exact absurd g2 hf
       |(clear hf h2
         go_wp2_with fail
         go_meet
         exact ⟨rfl,.inr ⟨(by first|rfl|(congr 1;simp;omega)),Hn.out⟩⟩)
    case rest=>
     obtain ⟨hw3,htt⟩:=hcut
     subst hw3
     rcases htt with ⟨rfl,hn⟩|⟨rfl,htt⟩
     ·have Hn:=Qh hn
      clear hn
      go_wp2
      go_ret
      exact ⟨Xac Hn.out.symm,hb3'⟩
     replace He:=Qh (show entErrR x=_ by rw [He.out,if_neg htt])
     have Hsz:=Qh (show 0≤x.size∧x.size≤65536∧(x.kind=1∨x.size=0) by omega)
     clear htt
     go_upto_region 16 with fail
     go_cut [82] (fun s82 wx=>w3=wx∧(s82= .bool true∧entErrR x=1∨s82= .bool false∧ ¬((x.kind=1∧x.digest.length≠32)∨(x.kind≠1∧x.digest≠ []))))
     case first=>
      by_cases hbad:(x.kind=1∧x.digest.length≠32)∨(x.kind≠1∧x.digest≠ [])
      ·have Hn:=Qh (show entErrR x=1 by rw [He.out,if_pos hbad])
       have hz:(((x.digest.length:Int) != 32)=true∧x.kind=1)∨(((x.digest== [])=false∧x.digest.isEmpty=false∧(!x.digest.isEmpty)=true∧(x.digest != [])=true)∧x.kind≠1):=by
        rcases hbad with ⟨h1,h2⟩|⟨h1,h2⟩
        ·left;exact ⟨by rw [bne_iff_ne];omega,h1⟩
        ·right
         exact ⟨Xcw h2,h1⟩
       clear hbad
       rcases hz with ⟨z1,z2⟩|⟨⟨z1,z3,z4,z5⟩,z2⟩
       all_goals
        first
        |exact absurd z2 hf
        |exact absurd hf z2
        |(clear hf z2
          go_wp2_with fail
          go_meet
          exact ⟨rfl,.inl ⟨(by first|rfl|(congr 1;simp;omega)),Hn.out⟩⟩)
      ·have hz:(((x.digest.length:Int) != 32)=false∧x.kind=1)∨(((x.digest== [])=true∧x.digest.isEmpty=true∧(!x.digest.isEmpty)=false∧(x.digest != [])=false)∧x.kind≠1):=by
        by_cases h1:x.kind=1
        ·left
         have h2:x.digest.length=32:=Classical.byContradiction fun h=>hbad (.inl ⟨h1,h⟩)
         exact ⟨by rw [h2];rfl,h1⟩
        ·right
         exact ⟨Xdv (Classical.byContradiction fun h=>hbad (.inr ⟨h1,h⟩)),h1⟩
       have Hn:=Qh hbad
       clear hbad
       rcases hz with ⟨z1,z2⟩|⟨⟨z1,z3,z4,z5⟩,z2⟩
       all_goals
        first
        |exact absurd z2 hf
        |exact absurd hf z2
        |(clear hf z2
          go_wp2_with fail
          go_meet
          exact ⟨rfl,.inr ⟨(by first|rfl|(congr 1;simp;omega)),Hn.out⟩⟩)
     case rest=>
      obtain ⟨hw3,htt⟩:=hcut
      subst hw3
      rcases htt with ⟨rfl,hn⟩|⟨rfl,htt⟩
      ·have Hn:=Qh hn
       clear hn
       go_wp2
       go_ret
       exact ⟨Xac Hn.out.symm,hb3'⟩
      replace He:=Qh (show entErrR x=if xtsErr false x.exts≠0 then xtsErr false x.exts else if sumW x.exts≠x.size then 1 else 0 by rw [He.out,if_neg htt,f1])
      clear htt
      go_wp2_with fail
      go_loopw [6,7] (fun s6 s7 wr=>s6= .int .i64 0∧s7= .int .i64 0∧w3=wr) (fun _ _ _=>0)
      case atStart=>exact ⟨rfl,rfl,rfl⟩
      case round=>
       obtain ⟨rfl,rfl,hwr⟩:=hrel
       subst hwr
       by_cases hl0:0<x.exts.length
       ·obtain ⟨y,b,off,cap',hly,hvv,e0,e1,e2⟩:=xtAt Hvx.out hok3 0 hl0
        cases hvv
        have hxe:x.exts=y::x.exts.drop 1:=by rw [←hly,←List.drop_eq_getElem_cons hl0];rfl
        have Hn:=Qh (show entErrR x=1 by rw [He.out,hxe];rfl)
        rw [Nat.zero_mul,Nat.add_zero] at e0 e1 e2
        clear hly hxe
        go_wp2
        go_ret
        exact ⟨Xac Hn.out.symm,hb3'.alloc (Nat.le_of_lt hsz3) _⟩
       ·have Hx0:=Qh (show x.exts= [] from List.eq_nil_of_length_eq_zero (by omega))
        have Hn:=Qh (show entErrR x=0 by
         rw [He.out,Hx0.out,if_neg (by simp [xtsErr]),if_neg]
         have:=Hsz.out
         simp [sumW]
         omega)
        have hz0:x.size=0:=by have:=Hsz.out;omega
        have hz1:((0:Int) != x.size)=false:=by rw [hz0];rfl
        clear hz0
        go_wp2
        go_ret
        exact ⟨Xac Hn.out.symm,hb3'⟩
end Go.Proofs.YtdodihnehppnmaaGreatDoor
