/-
  Walks and laws that the claim's theorem uses: texts PeC PtA PtB RhA RhB, joined; comments out. Conditions: as each theorem says.
-/
import Derived.Test.YtmdfjnhfhidmhaaGreatDoorK11
set_option linter.all false
namespace Go.Proofs.YtmdfjnhfhidmhaaGreatDoor
open Go.RowKit
theorem Xdc (e:Ent):entErr e=
 if e.kind<1∨6<e.kind then 10
 else if pathErr e.path≠0 then pathErr e.path
 else if e.path= []∧e.kind<5 then 1
 else if chk e.attrs≠0 then chk e.attrs
 else if (e.attrs≠ []∧3<e.kind)∨targetOk e=false then 1 else contP e:=rfl
set_option maxRecDepth 100000 in
set_option maxHeartbeats 4000000 in
theorem Xey (I:IH) (hI:Glob I) (x:Ent) (va vx:Value) (hva:RdS tAt I va x.attrs) (hvx:RdS tXt I vx x.exts) (hwf:x.Wf) (hpl:x.path.length≤4294967280) (htl:x.target.length≤4294967280) (w:World) (hw:Ok I w):
 Calls Tryz.prog 77 #[entV x va vx] w fun e w'=>e= .returned (.int .i64 (entErr x))∧Below w.heap.size w w':=by
 have hlx:=hvx.len_le
 have hla:=hva.len_le
 have Hct:=Qh (fun w hw=>Xm7 I x va vx hva hvx hwf w hw)
 have Htg:=Qh (fun w hw=>Xo8 I hI x htl va vx w hw)
 obtain ⟨ao,cap,rfl,hcap,hcm,_⟩:=id hvx
 obtain ⟨ao2,cap2,rfl,hcap2,hcm2,_⟩:=id hva
 have Hva:=Qh hva
 clear hvx hva
 have Hpc:=Qh (fun w hw=>Xlb I hI x.path hpl w hw)
 have Hac:=Qh (fun w hw=>Xrw I _ x.attrs Hva.out hwf.attrs w hw)
 have hs0:=hwf.s0
 have hs1:=hwf.s1
 have hk0:=hwf.k0
 have hk1:=hwf.k1
 have hd1:=hwf.digest
 clear hwf
 by_cases hkl:x.kind<1
 case pos=>
  have Hn:=Qh (show entErr x=10 by rw [Xdc,if_pos (.inl hkl)])
  go_enter Tryz.func77,Tryz.ntmps77
  go_wp2
  go_ret
  exact ⟨Xaj Hn.out.symm,(Qb _ _).alloc (Qn _) _⟩
 by_cases hkg:6<x.kind
 case pos=>
  have Hn:=Qh (show entErr x=10 by rw [Xdc,if_pos (.inr hkg)])
  go_enter Tryz.func77,Tryz.ntmps77
  go_wp2
  go_ret
  exact ⟨Xaj Hn.out.symm,(Qb _ _).alloc (Qn _) _⟩
 have He:=Qh (show entErr x=_ by rw [Xdc,if_neg (show ¬(x.kind<1∨6<x.kind) by omega)])
 by_cases hpe:pathErr x.path=0
 case neg=>
  obtain ⟨q,hq⟩:∃q,pathErr x.path=q:=⟨_,rfl⟩
  have hn:(q != 0)=true:=by rw [←hq];simpa using hpe
  have Hn:=Qh (show entErr x=q by rw [He.out,if_pos hpe,hq])
  rw [hq] at Hpc
  clear hq hpe
  go_enter Tryz.func77,Tryz.ntmps77
  go_wp2_with fail
  refine (Hpc.out _ (hw.alloc _)).mono ?_
  rintro e w1 ⟨rfl,hb1⟩
  have hb1':Below w.heap.size w w1:=((Qb _ _).alloc (Qn _) _).trans (hb1.mono (by simp))
  have hsz1:w.heap.size<w1.heap.size:=by have:=hb1.size;simp at this;omega
  have hok1:Ok I w1:=(hw.alloc _).below (Qn _) hb1
  obtain ⟨c0,c1,c2,c3,c4,c5,c6⟩:=entB rfl hb1
  clear hb1
  go_wp2
  go_ret
  exact ⟨Xaj Hn.out.symm,hb1'⟩
 replace He:=Qh (show entErr x=_ by rw [He.out,if_neg (show ¬pathErr x.path≠0 by omega)])
 rw [hpe] at Hpc
 clear hpe
 by_cases he5:x.path= []∧x.kind<5
 case pos=>
  have Hn:=Qh (show entErr x=1 by rw [He.out,if_pos he5])
  obtain ⟨p1,p2,p3,p4⟩:=Xdx he5.1
  have k5:((x.kind:Int) != 5)=true:=by rw [bne_iff_ne];omega
  have k6:((x.kind:Int) != 6)=true:=by rw [bne_iff_ne];omega
  have hk5:=he5.2
  clear he5
  go_enter Tryz.func77,Tryz.ntmps77
  go_wp2_with fail
  refine (Hpc.out _ (hw.alloc _)).mono ?_
  rintro e w1 ⟨rfl,hb1⟩
  have hb1':Below w.heap.size w w1:=((Qb _ _).alloc (Qn _) _).trans (hb1.mono (by simp))
  have hsz1:w.heap.size<w1.heap.size:=by have:=hb1.size;simp at this;omega
  have hok1:Ok I w1:=(hw.alloc _).below (Qn _) hb1
  obtain ⟨c0,c1,c2,c3,c4,c5,c6⟩:=entB rfl hb1
  clear hb1
  go_wp2
  go_ret
  exact ⟨Xaj Hn.out.symm,hb1'⟩
 replace He:=Qh (show entErr x=_ by rw [He.out,if_neg he5])
 have hpp:(((x.path== [])=true∧x.path.isEmpty=true∧(!x.path.isEmpty)=false∧(x.path != [])=false)∧(x.kind=5∨x.kind=6))∨((x.path== [])=false∧x.path.isEmpty=false∧(!x.path.isEmpty)=true∧(x.path != [])=true):=by
  by_cases h:x.path= []
  ·left;exact ⟨Xdx h,by have:=Int.not_lt.1 fun h2=>he5 ⟨h,h2⟩;omega⟩
  ·right
   exact Xdr h
 clear he5
 go_enter Tryz.func77,Tryz.ntmps77
 go_wp2_with fail
 refine (Hpc.out _ (hw.alloc _)).mono ?_
 rintro e w1 ⟨rfl,hb1⟩
 have hb1':Below w.heap.size w w1:=((Qb _ _).alloc (Qn _) _).trans (hb1.mono (by simp))
 have hsz1:w.heap.size<w1.heap.size:=by have:=hb1.size;simp at this;omega
 have hok1:Ok I w1:=(hw.alloc _).below (Qn _) hb1
 obtain ⟨c0,c1,c2,c3,c4,c5,c6⟩:=entB rfl hb1
 clear hb1
 clear Hpc
 go_upto_region 6 with fail
 go_cut [31] (fun s31 wx=>s31= .bool false∧w1=wx)
 case first=>
  rcases hpp with ⟨⟨p1,p2,p3,p4⟩,p5|p5⟩|⟨p1,p2,p3,p4⟩
  ·have k5:((x.kind:Int) != 5)=false:=by rw [p5];rfl
   clear p5
   go_wp2_with fail
   go_meet
   exact ⟨rfl,rfl⟩
  ·have k5:((x.kind:Int) != 5)=true:=by rw [p5];rfl
   have k6:((x.kind:Int) != 6)=false:=by rw [p5];rfl
   clear p5
   go_wp2_with fail
   go_meet
   exact ⟨rfl,rfl⟩
  ·go_wp2_with fail
   go_meet
   exact ⟨rfl,rfl⟩
 case rest=>
  obtain ⟨rfl,hcut⟩:=hcut
  subst hcut
  clear hpp
  go_wp2_with fail
  refine (Hac.out _ hok1).mono ?_
  rintro e w2 ⟨rfl,hb2⟩
  have hb2':=hb1'.trans (hb2.mono (Nat.le_of_lt hsz1))
  have hsz2:w.heap.size<w2.heap.size:=by have:=hb2.size;omega
  have hok2:Ok I w2:=hok1.below (Qn _) hb2
  obtain ⟨c0,c1,c2,c3,c4,c5,c6⟩:=EntB.thru (⟨c0,c1,c2,c3,c4,c5,c6⟩:EntB w1 w.heap.size x _ _) hb2
  clear hb2 hb1' hsz1 hok1
  by_cases hca:chk x.attrs=0
  case neg=>
   obtain ⟨q,hq⟩:∃q,chk x.attrs=q:=⟨_,rfl⟩
   have hn:(q != 0)=true:=by rw [←hq];simpa using hca
   have Hn:=Qh (show entErr x=q by rw [He.out,if_pos hca,hq])
   rw [hq]
   clear hq hca
   go_wp2
   go_ret
   exact ⟨Xaj Hn.out.symm,hb2'⟩
  replace He:=Qh (show entErr x=_ by rw [He.out,if_neg (show ¬chk x.attrs≠0 by omega)])
  rw [hca]
  clear hca Hac
  go_upto_region 11 with fail
  go_cut [51] (fun s51 wx=> ∃w3,w3=wx∧(s51= .bool true∧entErr x=1∨s51= .bool false∧ ¬((x.attrs≠ []∧3<x.kind)∨targetOk x=false))∧Below w2.heap.size w2 w3)
  case first=>
   have hmain:x.attrs.length<1∨(0<x.attrs.length∧3<x.kind)∨(0<x.attrs.length∧x.kind≤3):=by omega
   rcases hmain with ha|⟨ha,hk3⟩|⟨ha,hk3⟩
   ·have d0:decide (0<x.attrs.length)=false:=Qf (by omega)
    have Ha0:=Qh (show x.attrs= [] from List.eq_nil_of_length_eq_zero (by omega))
    go_wp2_with fail
    refine (Htg.out _ hok2).mono ?_
    rintro e w3 ⟨rfl,hb3⟩
    cases htg:targetOk x
    ·have Hn:=Qh (show entErr x=1 by rw [He.out,if_pos (.inr htg)])
     clear htg
     go_wp2_with fail
     go_meet
     exact ⟨_,rfl,.inl ⟨rfl,Hn.out⟩,hb3⟩
    ·go_wp2_with fail
     go_meet
     refine ⟨_,rfl,.inr ⟨(by first|rfl|(congr 1;exact Qf (by omega))),?_⟩,hb3⟩
     rintro (⟨h1,h2⟩|h1)
     ·first
       |exact h1 Ha0.out
       |omega
     ·rw [htg] at h1;exact absurd h1 (by simp)
   ·have d0:decide (0<x.attrs.length)=true:=Qt ha
    have Hn:=Qh (show entErr x=1 by rw [He.out,if_pos (.inl ⟨by intro e;rw [e] at ha;simp at ha,hk3⟩)])
    go_wp2_with fail
    go_meet
    exact ⟨_,rfl,.inl ⟨(by first|rfl|(congr 1;exact Qt (by omega))),Hn.out⟩,Qb _ _⟩
   ·have d0:decide (0<x.attrs.length)=true:=Qt ha
    go_wp2_with fail
    refine (Htg.out _ hok2).mono ?_
    rintro e w3 ⟨rfl,hb3⟩
    cases htg:targetOk x
    ·have Hn:=Qh (show entErr x=1 by rw [He.out,if_pos (.inr htg)])
     clear htg
     go_wp2_with fail
     go_meet
     exact ⟨_,rfl,.inl ⟨rfl,Hn.out⟩,hb3⟩
    ·go_wp2_with fail
     go_meet
     refine ⟨_,rfl,.inr ⟨(by first|rfl|(congr 1;exact Qf (by omega))),?_⟩,hb3⟩
     rintro (⟨h1,h2⟩|h1)
     ·first
       |exact h1 Ha0.out
       |omega
     ·rw [htg] at h1;exact absurd h1 (by simp)
  case rest=>
   obtain ⟨w3,hw3,htt,hb3⟩:=hcut
   subst hw3
   have hb3':=hb2'.trans (hb3.mono (Nat.le_of_lt hsz2))
   have hok3:Ok I w3:=hok2.below (Qn _) hb3
   obtain ⟨c0,c1,c2,c3,c4,c5,c6⟩:=EntB.thru (⟨c0,c1,c2,c3,c4,c5,c6⟩:EntB w2 w.heap.size x _ _) hb3
   clear hb3 hb2' hsz2 hok2 Htg
   rcases htt with ⟨rfl,hn⟩|⟨rfl,htt⟩
   ·have Hn:=Qh hn
    clear hn
    go_wp2
    go_ret
    exact ⟨Xaj Hn.out.symm,hb3'⟩
   have Hn:=Qh (show entErr x=contP x by rw [He.out,if_neg htt])
   clear htt
   go_wp2_with fail
   refine (Hct.out _ hok3).mono ?_
   rintro e w4 ⟨rfl,hb4⟩
   go_wp2
   go_ret
   exact ⟨Xaj Hn.out.symm,hb3'.trans (hb4.mono hb3'.size)⟩
def PredE (g:Nat) (cb:Array Value) (l:List Ent) (p:Ent→Bool) (C:World→Prop):Prop:=
 ∀x∈l,∀(a1 a2:Option Addr) (c1 c2:Nat) (W:World),C W→Calls Tryz.prog g (#[entV x (.slice a1 x.attrs.length c1) (.slice a2 x.exts.length c2)]++cb) W fun e w'=>e= .returned (.bool (p x))∧Below W.heap.size W w'
set_option maxRecDepth 100000 in
set_option maxHeartbeats 400000 in
theorem Xc6 (I:IH) (v:Value) (l:List Ent) (hv:RdS tEnt I v l) (g:Nat) (cb:Array Value) (p:Ent→Bool) (w:World) (hw:Ok I w) (eg:∀args w,(callFunc g args).run Tryz.prog w= .ok (.enter g args) w) (hp:PredE g cb l p (Below w.heap.size w)):
 Calls Tryz.prog 134 #[v,.func (.func g) #[] cb] w fun e w'=>e= .returned (.int .i64 (idxL l p))∧Below w.heap.size w w':=by
 have hlen:=hv.len_le
 obtain ⟨ao,cap,rfl,hcap,hcm,_⟩:=id hv
 have Hv:=Qh hv;clear hv
 have Hp:=Qh hp;clear hp
 go_enter Tryz.func134,Tryz.ntmps134
 go_wp2_with fail
 go_loopw [8] (fun s8 wr=> ∃k:Nat,k≤l.length∧s8= .int .i64 k∧(l.take k).any p=false∧Below w.heap.size w wr) (fun i _=>l.length-(intOf i).toNat)
 case atStart=>exact ⟨0,Nat.zero_le _,rfl,rfl,Qb _ _⟩
 case round=>
  obtain ⟨k,hk,rfl,hr,hb⟩:=hrel
  have Hr:=Qh hr;clear hr
  by_cases hlt:k<l.length
  ·have hwr:Ok I wr:=hw.below (Qn _) hb
   obtain ⟨x,va,vx,b,off,cap',hlx,hvv,⟨c0,c1,c2,c3,c4,c5,c6⟩,h1,h2⟩:=Xd8 Hv.out hwr k hlt
   cases hvv
   obtain ⟨aa,ca,rfl,_,_,_⟩:=id h1
   obtain ⟨ax,cx,rfl,_,_,_⟩:=id h2
   have Hlx:=Qh hlx
   have Hcall:=Qh (Hp.out x (by rw [←hlx];exact List.getElem_mem hlt) aa ax ca cx wr hb)
   clear hlx h1 h2
   go_wp2_with fail
   refine Hcall.out.mono ?_
   rintro e w1 ⟨rfl,hb1⟩
   have hb1':=hb.trans (hb1.mono hb.size)
   clear hb1 Hcall c0 c1 c2 c3 c4 c5 c6
   cases hpx:p x
   ·have Hn:=Qh (show (l.take (k+1)).any p=false by rw [List.take_succ_eq_append_getElem hlt,List.any_append,Hr.out,Hlx.out];simp [hpx])
    clear hpx
    go_wp2
    go_roundw
    case rel=>exact ⟨k+1,by omega,by go_num,Hn.out,hb1'⟩
    case measure=>simp [intOf];omega
   ·have Hn:=Qh (Xdv (p:=p) hlt (by rw [Hlx.out];exact hpx) Hr.out)
    clear hpx
    go_wp2
    go_ret
    exact ⟨Xaj Hn.out.symm,hb1'⟩
  ·have Hn:=Qh (show idxL l p= -1 from Xdw (by have:=Hr.out;rwa [List.take_of_length_le (by omega)] at this))
   go_wp2
   go_ret
   exact ⟨Xaj Hn.out.symm,hb⟩
set_option maxRecDepth 100000 in
theorem Xrf (key:Bytes) (b:Nat) (l:List Ent) (w:World) (hc:w.cell? ⟨b,0,none⟩=some (S key)):PredE 135 #[.pointer (some ⟨b,0,none⟩)] l (fun x=>x.path==key) (Below w.heap.size w):=by
 intro x _ a1 a2 c1 c2 W hW
 have hcW:=Xaa hW hc
 have hc2:=Xad (.cells #[.int .i64 x.kind,S x.path,.slice a1 x.attrs.length c1,S x.target,.int .i64 x.size,S x.digest,.slice a2 x.exts.length c2] 81) hcW
 clear hc hcW
 go_enter Tryz.func135,Tryz.ntmps135
 go_wp2
 go_ret
 exact ⟨rfl,(Qb _ _).alloc (Qn _) _⟩
abbrev isAt (p:Bytes):Ent→Bool:=fun x=>x.path==p
set_option maxRecDepth 100000 in
set_option maxHeartbeats 400000 in
theorem Xpd (I:IH) (v:Value) (t:List Ent) (hv:RdS tEnt I v t) (p:Bytes) (w:World) (hw:Ok I w):
 Calls Tryz.prog 78 #[v,S p] w fun e w'=>e= .returned (.int .i64 (idxL t (isAt p)))∧Below w.heap.size w w':=by
 have Hp:=Qh (Xrf p w.heap.size t (w.alloc (.cells #[S p] 9)) (by simp))
 have Hi:=Qh (Xc6 I v t hv _ _ _ _ (hw.alloc _) (fun _ _=>by kernel_rfl) Hp.out)
 obtain ⟨ao,cap,rfl,hcap,hcm,_⟩:=id hv
 clear hv
 obtain ⟨q,hq⟩:∃q,idxL t (isAt p)=q:=⟨_,rfl⟩
 have Hq:=Qh hq
 have Hi2:=Qh (Hi.out)
 clear Hi hq
 rw [show (fun x:Ent=>x.path==p)=isAt p from rfl,Hq.out] at Hi2
 rw [Hq.out]
 go_enter Tryz.func78,Tryz.ntmps78
 go_wp2_with fail
 refine Hi2.out.mono ?_
 rintro e w1 ⟨rfl,hb1⟩
 go_wp2
 go_ret
 exact ⟨rfl,((Qb _ _).alloc (Qn _) _).trans (hb1.mono (by simp))⟩
theorem Xi9 {t:List Ent} {p:Bytes} {i:Nat} (hi:i<t.length) (hp:isAt p t[i]=true) (hn:(t.take i).any (isAt p)=false):getE t p=(t[i],true):=by
 have:getT t p=some t[i]:=by
  unfold getT
  conv=>lhs;rw [←List.take_append_drop i t]
  rw [List.find?_append,List.drop_eq_getElem_cons hi,List.find?_cons]
  have h2:(t[i].path==p)=true:=hp
  rw [h2]
  have:(t.take i).find? (fun x=>x.path==p)=none:=by
   rw [List.find?_eq_none]
   intro x hx hpx
   rw [List.any_eq_true.2 ⟨x,hx,hpx⟩] at hn
   exact absurd hn (by simp)
  rw [this];rfl
 rw [getE,this]
theorem Xja {t:List Ent} {p:Bytes} (hn:t.any (isAt p)=false):getE t p=(zeroE,false):=by
 have:getT t p=none:=by
  unfold getT
  rw [List.find?_eq_none]
  intro x hx hpx
  rw [List.any_eq_true.2 ⟨x,hx,hpx⟩] at hn
  exact absurd hn (by simp)
 rw [getE,this]
set_option maxRecDepth 100000 in
set_option maxHeartbeats 1000000 in
theorem Xsc (I:IH) (v:Value) (t:List Ent) (hv:RdS tEnt I v t) (p:Bytes) (w:World) (hw:Ok I w):
 Calls Tryz.prog 111 #[v,S p] w (RetG I w (getE t p)):=by
 have hlen:=hv.len_le
 have Hf:=Qh (Xpd I v t hv p (w.alloc (.cells zeroRow 81)) (hw.alloc _))
 obtain ⟨ao,cap,rfl,hcap,hcm,_⟩:=id hv
 have Hv:=Qh hv;clear hv
 have hi7:(Tryz.prog.info? 81).map (·.size)=some 7:=by kernel_rfl
 have hz0:=heap_alloc_new w (.cells zeroRow 81)
 have Hz0:=Qh hz0
 clear hz0
 rcases Xbl t (isAt p) with ⟨i,hi,e1,e2,e3⟩|⟨e1,e2⟩
 ·have Hn:=Qh (Xi9 hi e2 e3)
  rw [e1] at Hf
  clear e1 e2 e3
  go_enter Tryz.func111,Tryz.ntmps111
  go_wp2_with fail
  refine Hf.out.mono ?_
  rintro e w1 ⟨rfl,hb1⟩
  have hok1:Ok I w1:=(hw.alloc _).below (Qn _) hb1
  have hsz:w.heap.size<w1.heap.size:=by have:=hb1.size;simp at this;omega
  have Hz:=Qh ((hb1.block w.heap.size (by simp)).trans Hz0.out)
  have hb1':=((Qb w.heap.size w).alloc (Qn _) (.cells zeroRow 81)).trans (hb1.mono (by simp))
  clear hb1
  obtain ⟨x,va,vx,b,off,cap',hlx,hvv,⟨c0,c1,c2,c3,c4,c5,c6⟩,h1,h2⟩:=Xd8 Hv.out hok1 i hi
  cases hvv
  obtain ⟨aa,ca,rfl,_,_,_⟩:=id h1
  obtain ⟨ax,cx,rfl,_,_,_⟩:=id h2
  have H1:=Qh h1
  have H2:=Qh h2
  rw [hlx] at Hn
  have hone:=Xm6 h1 h2
  clear hlx h1 h2
  go_wp2_with (refine wpList_store_row rfl 81 _ _ rfl w.heap.size (entRow x (.slice aa x.attrs.length ca) (.slice ax x.exts.length cx)) rfl rfl 81 zeroRow Hz.out hi7 rfl hone ?_)
  try simp only [Exit.inBlock,Exit.then]
  refine bodyPost_ret (v:= .tuple #[entV x (.slice aa x.attrs.length ca) (.slice ax x.exts.length cx),.bool true]) ?_ rfl ?_
  ·rw [results_cell_tmp rfl]
   simp [asAddr,run_loadVar_row _ w.heap.size 81 81 (entRow x (.slice aa x.attrs.length ca) (.slice ax x.exts.length cx)) (0,0) _ (setRow_heap _ _ _ _ _ _ Hz.out) Tryz.underlying81 rfl hi7]
  ·rw [Hn.out]
   exact ⟨_,_,rfl,H1.out,H2.out,below_setRow hb1' (Qn _) _⟩
 ·have Hn:=Qh (Xja e2)
  rw [e1] at Hf
  clear e1 e2
  go_enter Tryz.func111,Tryz.ntmps111
  go_wp2_with fail
  refine Hf.out.mono ?_
  rintro e w1 ⟨rfl,hb1⟩
  have Hz:=Qh ((hb1.block w.heap.size (by simp)).trans Hz0.out)
  have hb1':=((Qb w.heap.size w).alloc (Qn _) (.cells zeroRow 81)).trans (hb1.mono (by simp))
  clear hb1
  have hzo:zeroRow.all (·.oneCell')=true:=by simp [Value.oneCell']
  go_wp2_with (refine wpList_store_row rfl 81 _ _ rfl w.heap.size zeroRow rfl rfl 81 zeroRow Hz.out hi7 rfl hzo ?_)
  try simp only [Exit.inBlock,Exit.then]
  refine bodyPost_ret (v:= .tuple #[.agg zeroRow,.bool false]) ?_ rfl ?_
  ·rw [results_cell_tmp rfl]
   simp [asAddr,run_loadVar_row _ w.heap.size 81 81 zeroRow (0,0) _ (setRow_heap _ _ _ _ _ _ Hz.out) Tryz.underlying81 rfl hi7]
  ·rw [Hn.out]
   exact ⟨.slice none 0 0,.slice none 0 0,rfl,RdS.nil _ _,RdS.nil _ _,below_setRow hb1' (Qn _) _⟩
set_option maxRecDepth 100000 in
set_option maxHeartbeats 400000 in
theorem Xjf (I:IH) (v:Value) (t:List Ent) (hv:RdS tEnt I v t) (p:Bytes) (w:World) (hw:Ok I w):
 Calls Tryz.prog 84 #[v,S p] w fun e w'=>e= .returned (.int .i64 (dirErr t p))∧Below w.heap.size w w':=by
 have Hg:=Qh (Xsc I v t hv p w hw)
 obtain ⟨ao,cap,rfl,hcap,hcm,_⟩:=id hv
 clear hv
 by_cases hp:p= []
 ·obtain ⟨p1,p2,p3,p4⟩:=Xdx hp
  have Hn:=Qh (show dirErr t p=0 by rw [dirErr,if_pos hp])
  clear hp
  generalize getE t p=g at Hg
  obtain ⟨x,b⟩:=g
  go_enter Tryz.func84,Tryz.ntmps84
  go_wp2_with fail
  refine Hg.out.mono ?_
  rintro e w1 ⟨va,vx,rfl,h1,h2,hb1⟩
  obtain ⟨aa,ca,rfl,_,_,_⟩:=id h1
  obtain ⟨ax,cx,rfl,_,_,_⟩:=id h2
  clear h1 h2
  go_wp2
  go_ret
  exact ⟨Xaj Hn.out.symm,hb1.alloc hb1.size _⟩
 ·obtain ⟨p1,p2,p3,p4⟩:=Xdr hp
  have Hn:=Qh (Xm8 t p hp)
  clear hp
  generalize getE t p=g at Hn Hg
  obtain ⟨x,b⟩:=g
  go_enter Tryz.func84,Tryz.ntmps84
  go_wp2_with fail
  refine Hg.out.mono ?_
  rintro e w1 ⟨va,vx,rfl,h1,h2,hb1⟩
  obtain ⟨aa,ca,rfl,_,_,_⟩:=id h1
  obtain ⟨ax,cx,rfl,_,_,_⟩:=id h2
  clear h1 h2
  cases b
  ·have Hn2:=Qh (show dirErr t p=9 by rw [Hn.out];rfl)
   go_wp2
   go_ret
   exact ⟨Xaj Hn2.out.symm,hb1.alloc hb1.size _⟩
  ·by_cases hk:x.kind=2
   ·have k1:((x.kind:Int) != 2)=false:=by simpa using hk
    have Hn2:=Qh (show dirErr t p=0 by rw [Hn.out];simp [hk])
    clear hk
    go_wp2
    go_ret
    exact ⟨Xaj Hn2.out.symm,hb1.alloc hb1.size _⟩
   ·have k1:((x.kind:Int) != 2)=true:=by simpa using hk
    have Hn2:=Qh (show dirErr t p=10 by rw [Hn.out];simp [hk])
    clear hk
    go_wp2
    go_ret
    exact ⟨Xaj Hn2.out.symm,hb1.alloc hb1.size _⟩
def inT (k:Int):Bool:=decide (k=1) || decide (k=2) || decide (k=3)
theorem inT_iff {k:Int}:inT k=true↔k=1∨k=2∨k=3:=by simp [inT,or_assoc]
set_option maxRecDepth 100000 in
theorem Xpc (k:Int) (w:World):Calls Tryz.prog 79 #[.int .i64 k] w fun e w'=>e= .returned (.bool (inT k))∧w=w':=by
 by_cases h1:k=1
 ·have Hn:=Qh (show inT k=true from inT_iff.2 (.inl h1))
  have f1:((k:Int)==1)=true:=by simpa using h1
  clear h1
  go_enter Tryz.func79,Tryz.ntmps79
  go_wp2
  go_ret
  exact ⟨Xay Hn.out.symm,rfl⟩
 by_cases h2:k=2
 ·have Hn:=Qh (show inT k=true from inT_iff.2 (.inr (.inl h2)))
  have f1:((k:Int)==1)=false:=by simpa using h1
  have f2:((k:Int)==2)=true:=by simpa using h2
  clear h1 h2
  go_enter Tryz.func79,Tryz.ntmps79
  go_wp2
  go_ret
  exact ⟨Xay Hn.out.symm,rfl⟩
 by_cases h3:k=3
 ·have Hn:=Qh (show inT k=true from inT_iff.2 (.inr (.inr h3)))
  have f1:((k:Int)==1)=false:=by simpa using h1
  have f2:((k:Int)==2)=false:=by simpa using h2
  have f3:((k:Int)==3)=true:=by simpa using h3
  clear h1 h2 h3
  go_enter Tryz.func79,Tryz.ntmps79
  go_wp2
  go_ret
  exact ⟨Xay Hn.out.symm,rfl⟩
 have Hn:=Qh (show inT k=false by
  cases h:inT k with
  |false=>rfl
  |true=>rcases inT_iff.1 h with h|h|h<;>contradiction)
 have f1:((k:Int)==1)=false:=by simpa using h1
 have f2:((k:Int)==2)=false:=by simpa using h2
 have f3:((k:Int)==3)=false:=by simpa using h3
 clear h1 h2 h3
 go_enter Tryz.func79,Tryz.ntmps79
 go_wp2
 go_ret
 exact ⟨Xay Hn.out.symm,rfl⟩
def SmlT (t:List Ent):Prop:= ∀x∈t,x.path.length≤4294967280∧x.target.length≤4294967280
def tHo:Ty Ho:=Ty.flat 2 (fun x=> [S x.p,.int .i64 x.u]) (fun _=>rfl) (fun _ u h=>by simp at h;rcases h with rfl|rfl<;>rfl)
theorem hoAt {I:IH} {v:Value} {l:List Ho} {w:World} (h:RdS tHo I v l) (hw:Ok I w) (i:Nat) (hi:i<l.length):∃x b off cap,l[i]=x∧v= .slice (some ⟨b,off,none⟩) l.length cap∧
 w.cell? ⟨b,off+i*2,none⟩=some (S x.p)∧w.cell? ⟨b,off+i*2+1,none⟩=some (.int .i64 x.u):=by
 obtain ⟨b,off,cap,cs,hv,hcs,hc⟩:=h.at_ hw hi
 have hcs':cs= [S l[i].p,.int .i64 l[i].u]:=hcs
 subst hcs'
 exact ⟨_,b,off,cap,rfl,hv,hc 0 _ rfl,hc 1 _ rfl⟩
theorem Xhs:(Tryz.prog.info? 148).map (fun i=>(i.zero,i.size,i.bytes))=some (some (.agg #[.string ⟨#[]⟩,.int .i64 0]),2,24):=by kernel_rfl
theorem Xti:ElemOk Tryz.prog 41 148 tHo 24:=ElemOk.of Tryz.underlying41 Xhs rfl (by decide) rfl
abbrev hoV (x:Ho):Value:= .agg #[S x.p,.int .i64 x.u]
def PredH (g:Nat) (cb:Array Value) (l:List Ho) (p:Ho→Bool) (C:World→Prop):Prop:=
 ∀x∈l,∀W:World,C W→Calls Tryz.prog g (#[hoV x]++cb) W fun e w'=>e= .returned (.bool (p x))∧Below W.heap.size W w'
theorem Xm4 (f:Ho→Bool) {a:List Ho} {k:Nat} (hk:k<a.length) {x:Ho} (hx:a[k]=x):(a.take (k+1)).filter f=(a.take k).filter f++(if f x=true then [x] else []):=by
 rw [List.take_succ_eq_append_getElem hk,hx,List.filter_append]
 cases h:f x<;>simp [h]
theorem Xq4 {α:Type} {T U:List α} {c:Bool} {p:α} (h:T=U++(if c=true then [p] else [])) (hc:c=true):T=U++ [p]:=by rw [h,if_pos hc]
theorem Xtg {α:Type} {T U:List α} {c:Bool} {p:α} (h:T=U++(if c=true then [p] else [])) (hc:c=false):T=U:=by rw [h,hc,if_neg (by simp),List.append_nil]
theorem OwnS.castH {α:Type} {T:Ty α} {E:TypeId} {I:IH} {w:World} {B:Nat} {v:Value} {l l':List α} (h:OwnS T E I w B v l) (e:l=l'):OwnS T E I w B v l':=e▸h
set_option maxRecDepth 100000 in
set_option maxHeartbeats 1000000 in
theorem Xb0 (I:IH) (v:Value) (l:List Ho) (hv:RdS tHo I v l) (hn:l.length≤100000) (g:Nat) (cb:Array Value) (p:Ho→Bool) (w:World) (hw:Ok I w) (eg:∀args w,(callFunc g args).run Tryz.prog w= .ok (.enter g args) w) (hp:PredH g cb l p (Below w.heap.size w)):
 Calls Tryz.prog 89 #[v,.func (.func g) #[] cb] w fun e w'=> ∃v',e= .returned v'∧OwnS tHo 148 I w' w.heap.size v' (l.filter p)∧Below w.heap.size w w':=by
 obtain ⟨ao,cap,rfl,hcap,hcm,_⟩:=id hv
 have Hv:=Qh hv;clear hv
 have Hp:=Qh hp;clear hp
 go_enter Tryz.func89,Tryz.ntmps89
 go_wp2_with fail
 go_loopw [5,10] (fun s5 s10 wr=> ∃k:Nat,k≤l.length∧s10= .int .i64 k∧OwnS tHo 148 I wr w.heap.size s5 ((l.take k).filter p)∧Below w.heap.size w wr) (fun _ i _=>l.length-(intOf i).toNat)
 case atStart=>exact ⟨0,Nat.zero_le _,rfl,OwnS.nil _ _ _ _ _,Qb _ _⟩
 case round=>
  obtain ⟨k,hk,rfl,hown,hb⟩:=hrel
  have Hown:=Qh hown
  clear hown
  have hwr:Ok I wr:=hw.below (Qn _) hb
  have hfl:((l.take k).filter p).length≤k:=Nat.le_trans (List.length_filter_le _ _) (by simp;omega)
  by_cases hlt:k<l.length
  ·obtain ⟨x,b,off,cap',hlx,hvv,c0,c1⟩:=hoAt Hv.out hwr k hlt
   cases hvv
   have Hst:=Qh (Xm4 p hlt hlx)
   have Hcall:=Qh (Hp.out x (by rw [←hlx];exact List.getElem_mem hlt) (wr.alloc (.cells #[S x.p,.int .i64 x.u] 148)) (hb.alloc hb.size _))
   clear hlx
   go_wp2_with fail
   refine Hcall.out.mono ?_
   rintro e w1 ⟨rfl,hb1⟩
   have x0:=Xaa hb1 (show (wr.alloc (.cells #[S x.p,.int .i64 x.u] 148)).cell? ⟨wr.heap.size,0,none⟩=some (S x.p) by simp)
   have x1:=Xaa hb1 (show (wr.alloc (.cells #[S x.p,.int .i64 x.u] 148)).cell? ⟨wr.heap.size,1,none⟩=some (.int .i64 x.u) by simp)
   have hb1':=(hb.alloc hb.size (.cells #[S x.p,.int .i64 x.u] 148)).trans (hb1.mono (by have:=hb.size;simp;omega))
   have Hown1:=Qh ((Hown.out.alloc (.cells #[S x.p,.int .i64 x.u] 148)).below hb1)
   have hs1:=hb1'.size
   clear hb1 Hcall c0 c1 Hown
   cases hpx:p x
   ·have Hn:=Qh (Xtg Hst.out hpx)
    clear hpx
    go_wp2
    go_roundw
    case rel=>exact ⟨k+1,by omega,by go_num,Hown1.out.castH Hn.out.symm,hb1'⟩
    case measure=>simp [intOf];omega
   ·have Hn:=Qh (Xq4 Hst.out hpx)
    clear hpx
    go_wp2_with (at_builtin;refine Xgc (w0:=w1) Xti rfl _ _ rfl _ _ _ rfl Hown1.out x [S x.p,.int .i64 x.u] _ rfl rfl (by omega) (by omega) hs1 ?_)
    intro v9 w9 hown9 hg9
    have hb9:=Below.own hb1' hg9 Hown1.out (Qn _) hs1
    go_wp2
    go_roundw
    case rel=>exact ⟨k+1,by omega,by go_num,hown9.castH Hn.out.symm,hb9⟩
    case measure=>simp [intOf];omega
  ·have hall:l.take k=l:=List.take_of_length_le (by omega)
   rw [hall] at Hown
   clear hall hfl
   go_wp2
   go_ret
   exact ⟨_,rfl,Hown.out,hb⟩
set_option maxRecDepth 100000 in
set_option maxHeartbeats 1000000 in
theorem Xc5 (I:IH) (v:Value) (l:List Ho) (hv:RdS tHo I v l) (g:Nat) (cb:Array Value) (p:Ho→Bool) (w:World) (hw:Ok I w) (eg:∀args w,(callFunc g args).run Tryz.prog w= .ok (.enter g args) w) (hp:PredH g cb l p (Below w.heap.size w)):
 Calls Tryz.prog 92 #[v,.func (.func g) #[] cb] w fun e w'=>e= .returned (.int .i64 (idxL l p))∧Below w.heap.size w w':=by
 have hlen:=hv.len_le
 obtain ⟨ao,cap,rfl,hcap,hcm,_⟩:=id hv
 have Hv:=Qh hv;clear hv
 have Hp:=Qh hp;clear hp
 go_enter Tryz.func92,Tryz.ntmps92
 go_wp2_with fail
 go_loopw [8] (fun s8 wr=> ∃k:Nat,k≤l.length∧s8= .int .i64 k∧(l.take k).any p=false∧Below w.heap.size w wr) (fun i _=>l.length-(intOf i).toNat)
 case atStart=>exact ⟨0,Nat.zero_le _,rfl,rfl,Qb _ _⟩
 case round=>
  obtain ⟨k,hk,rfl,hr,hb⟩:=hrel
  have Hr:=Qh hr;clear hr
  by_cases hlt:k<l.length
  ·have hwr:Ok I wr:=hw.below (Qn _) hb
   obtain ⟨x,b,off,cap',hlx,hvv,c0,c1⟩:=hoAt Hv.out hwr k hlt
   cases hvv
   have Hlx:=Qh hlx
   have Hcall:=Qh (Hp.out x (by rw [←hlx];exact List.getElem_mem hlt) wr hb)
   clear hlx
   go_wp2_with fail
   refine Hcall.out.mono ?_
   rintro e w1 ⟨rfl,hb1⟩
   have hb1':=hb.trans (hb1.mono hb.size)
   clear hb1 Hcall c0 c1
   cases hpx:p x
   ·have Hn:=Qh (show (l.take (k+1)).any p=false by rw [List.take_succ_eq_append_getElem hlt,List.any_append,Hr.out,Hlx.out];simp [hpx])
    clear hpx
    go_wp2
    go_roundw
    case rel=>exact ⟨k+1,by omega,by go_num,Hn.out,hb1'⟩
    case measure=>simp [intOf];omega
   ·have Hn:=Qh (Xdv (p:=p) hlt (by rw [Hlx.out];exact hpx) Hr.out)
    clear hpx
    go_wp2
    go_ret
    exact ⟨Xaj Hn.out.symm,hb1'⟩
  ·have Hn:=Qh (show idxL l p= -1 from Xdw (by have:=Hr.out;rwa [List.take_of_length_le (by omega)] at this))
   go_wp2
   go_ret
   exact ⟨Xaj Hn.out.symm,hb⟩
set_option maxRecDepth 100000 in
set_option maxHeartbeats 400000 in
theorem Xcg (I:IH) (v:Value) (l:List Ho) (hv:RdS tHo I v l) (g:Nat) (cb:Array Value) (p:Ho→Bool) (w:World) (hw:Ok I w) (eg:∀args w,(callFunc g args).run Tryz.prog w= .ok (.enter g args) w) (hp:PredH g cb l p (Below w.heap.size w)):
 Calls Tryz.prog 165 #[v,.func (.func g) #[] cb] w fun e w'=>e= .returned (.bool (l.any p))∧Below w.heap.size w w':=by
 have Hi:=Qh (Xc5 I v l hv g cb p w hw eg hp)
 obtain ⟨ao,cap,rfl,hcap,hcm,_⟩:=id hv
 clear hv hp eg
 rcases Xbl l p with ⟨i,hi,e1,e2,_⟩|⟨e1,e2⟩
 ·have Ha:=Qh (show l.any p=true from List.any_eq_true.2 ⟨l[i],List.getElem_mem hi,e2⟩)
  have hd:decide ((0:Int)≤(i:Int))=true:=Qt (by omega)
  rw [e1] at Hi
  clear e1 e2
  go_enter Tryz.func165,Tryz.ntmps165
  go_wp2_with fail
  refine Hi.out.mono ?_
  rintro e w1 ⟨rfl,hb1⟩
  go_wp2
  go_ret
  exact ⟨Xay Ha.out.symm,hb1⟩
 ·have Ha:=Qh e2
  rw [e1] at Hi
  clear e1 e2
  go_enter Tryz.func165,Tryz.ntmps165
  go_wp2_with fail
  refine Hi.out.mono ?_
  rintro e w1 ⟨rfl,hb1⟩
  go_wp2
  go_ret
  exact ⟨Xay Ha.out.symm,hb1⟩
set_option maxRecDepth 100000 in
theorem Xmn (d:Int) (b:Nat) (l:List Ho) (w:World) (hc:w.cell? ⟨b,0,none⟩=some (.int .i64 d)):PredH 95 #[.pointer (some ⟨b,0,none⟩)] l (fun h=>decide (d≤h.u)) (Below w.heap.size w):=by
 intro x _ W hW
 have hcW:=Xad (.cells #[S x.p,.int .i64 x.u] 148) (Xaa hW hc)
 clear hc
 show Calls Tryz.prog _ #[hoV x,.pointer (some ⟨b,0,none⟩)] W _
 go_enter Tryz.func95,Tryz.ntmps95
 go_wp2
 go_ret
 exact ⟨rfl,(Qb _ _).alloc (Qn _) _⟩
set_option maxRecDepth 100000 in
theorem Xdl (I:IH) (v:Value) (l:List Ho) (hv:RdS tHo I v l) (hn:l.length≤100000) (d:Int) (w:World) (hw:Ok I w):
 Calls Tryz.prog 42 #[v,.int .i64 d] w fun e w'=> ∃v',e= .returned v'∧OwnS tHo 148 I w' w.heap.size v' (actP l d)∧Below w.heap.size w w':=by
 have Hp:=Qh (Xmn d w.heap.size l (w.alloc (.cells #[.int .i64 d] 3)) (by simp))
 have Hs:=Qh (Xb0 I v l hv hn _ _ _ _ (hw.alloc (.cells #[.int .i64 d] 3)) (fun _ _=>by kernel_rfl) Hp.out)
 obtain ⟨ao,cap,rfl,hcap,hcm,_⟩:=id hv
 clear hv Hp
 go_enter Tryz.func42,Tryz.ntmps42
 go_wp2_with fail
 refine Hs.out.mono ?_
 rintro e w1 ⟨v1,rfl,hown,hb⟩
 go_wp2
 go_ret
 exact ⟨_,rfl,hown.lower (by simp),((Qb _ _).alloc (Qn _) _).trans (hb.mono (by simp))⟩
set_option maxRecDepth 100000 in
theorem Xqm (I:IH) (hI:Glob I) (p:Bytes) (hp:p.length≤4294967280) (b:Nat) (l:List Ho) (hl:∀h∈l,h.p.length≤4294967280) (w:World) (hw:Ok I w) (hc:w.cell? ⟨b,0,none⟩=some (S p)):PredH 211 #[.pointer (some ⟨b,0,none⟩)] l (fun h=>under p h.p) (Below w.heap.size w):=by
 intro x hx W hW
 have Hu:=Qh (Xhn I hI p x.p hp (hl x hx) (W.alloc (.cells #[S x.p,.int .i64 x.u] 148)) ((hw.below (Qn _) hW).alloc _))
 have hcW:=Xad (.cells #[S x.p,.int .i64 x.u] 148) (Xaa hW hc)
 clear hc
 show Calls Tryz.prog _ #[hoV x,.pointer (some ⟨b,0,none⟩)] W _
 go_enter Tryz.func211,Tryz.ntmps211
 go_wp2_with fail
 refine Hu.out.mono ?_
 rintro e w1 ⟨rfl,hb1⟩
 go_wp2
 go_ret
 exact ⟨rfl,((Qb _ _).alloc (Qn _) _).trans (hb1.mono (by simp))⟩
theorem HOk.short {l:List Ho} (h:HOk l):∀x∈l,x.p.length≤4294967280:=fun x hx=>by have:=(Xbw (h.path x hx)).1;omega
set_option maxRecDepth 100000 in
set_option maxHeartbeats 400000 in
theorem Xso (I:IH) (hI:Glob I) (v:Value) (l:List Ho) (hv:RdS tHo I v l) (hk:HOk l) (hn:l.length≤100000) (p:Bytes) (hp:p.length≤4294967280) (d:Int) (w:World) (hw:Ok I w):
 Calls Tryz.prog 163 #[v,S p,.int .i64 d] w fun e w'=>e= .returned (.bool (heldP l p d))∧Below w.heap.size w w':=by
 have Ha:=Qh (Xdl I v l hv hn d (w.alloc (.cells #[S p] 9)) (hw.alloc _))
 have Hk:=Qh (hk.act d)
 have Hfr:=Qh (fun b (hb:(w.alloc (.cells #[S p] 9)).heap.size≤b)=>(hw.alloc (.cells #[S p] 9)).fresh (b:=b) hb)
 have HI:=Qh hI
 obtain ⟨ao,cap,rfl,hcap,hcm,_⟩:=id hv
 clear hv hk hI
 go_enter Tryz.func163,Tryz.ntmps163
 go_wp2_with fail
 refine Ha.out.mono ?_
 rintro e w1 ⟨v1,rfl,hown,hb⟩
 have hok1:Ok I w1:=(hw.alloc _).below (Qn _) hb
 obtain ⟨I1,hI1,hI2,hI3,_⟩:=hown.freeze hok1 Hfr.out
 have hc1:w1.cell? ⟨w.heap.size,0,none⟩=some (S p):=Xaa hb (by simp)
 have Hp:=Qh (Xqm I1 (HI.out.mono (hI1.keep (hw.alloc (.cells #[S p] 9)) (Qn _))) p hp w.heap.size (actP l d) Hk.out.short w1 hI2 hc1)
 have Hc:=Qh (Xcg I1 _ _ hI3 _ _ _ w1 hI2 (fun _ _=>by kernel_rfl) Hp.out)
 have hb':=((Qb w.heap.size w).alloc (Qn _) (.cells #[S p] 9)).trans (hb.mono (by simp))
 obtain ⟨a1,c1,rfl,_,_,_⟩:=id hI3
 clear hb hown hI3 hI2 hI1 hc1 Ha Hp
 go_wp2_with fail
 refine Hc.out.mono ?_
 rintro e w2 ⟨rfl,hb2⟩
 go_wp2
 go_ret
 exact ⟨rfl,hb'.trans (hb2.mono hb'.size)⟩
theorem Xlw {s:Bytes} (h:dateOk s=true):Lib.atoiAll s= .ok (digits s)∧s≠ []∧s.all digC=true∧((s.getD 0 0).toNat=48→s= [48]):=by
 have h':=h
 obtain ⟨n,h1,h2,h3,h4⟩:=(Xlx s).1 h
 obtain ⟨u,rfl⟩:=Int.eq_ofNat_of_zero_le h2
 rw [Lib.itoa,if_neg (by omega),Int.toNat_natCast] at h4
 obtain ⟨f1,f2,f3,f4,f5⟩:=Xjk u
 rw [h4] at f1 f2 f3 f4 f5
 have hdg:digits s=u:=by rw [Xd9 f1,f3]
 refine ⟨by rw [hdg];exact h1,f2,f1,fun hc=> ?_⟩
 cases s with
 |nil=>exact absurd rfl f2
 |cons c r=>
  have hc':c=48:=by
   apply UInt8.toNat_inj.1
   simpa using hc
  subst hc'
  have hu:u=0:=by
   by_cases k:1≤u
   ·exact absurd rfl (f5 k)
   ·omega
  subst hu
  rw [←h4];first|(rw [Lib.decDigits];rfl)|simp [Lib.decDigits]|decide
def digSet:Bytes:= [48,49,50,51,52,53,54,55,56,57]
set_option maxRecDepth 100000 in
theorem Xm9:∀c:UInt8,digC c=true→digSet.contains c=true:=by
 intro c h
 have hb:=Xea h
 have key:∀n:Fin 256,48≤n.1→n.1≤57→digSet.contains (UInt8.ofNat n.1)=true:=by decide
 have:=key ⟨c.toNat,c.toNat_lt⟩ hb.1 hb.2
 simpa using this
theorem Xj4 {s:Bytes} (h:s.all digC=true):Lib.trimS s digSet= []:=by
 rw [Xid,List.all_eq_true]
 intro c hc
 exact Xm9 c (List.all_eq_true.1 h c hc)
theorem Xom (s:Bytes) (hs:s.length≤9223372036854775807) (w:World):
 Calls Tryz.prog 144 #[S s,S digSet] w fun e w'=>e= .returned (S (Lib.trimS s digSet))∧Below w.heap.size w w':=by
 have h:=Tryz.strings_Trim ⟨s.toArray⟩ ⟨digSet.toArray⟩ w (by rw [ByteArray.size_mk',List.size_toArray];exact hs) (by decide) (ascii_of_all (by decide))
 exact h
set_option maxRecDepth 100000 in
set_option maxHeartbeats 1000000 in
theorem Xn5 (s:Bytes) (hs:s.length≤4294967280) (hd:dateOk s=true) (w:World):
 Calls Tryz.prog 91 #[S s] w fun e w'=>e= .returned (.tuple #[.int .i64 (digits s),.bool true])∧Below w.heap.size w w':=by
 obtain ⟨ha,hne,hall,hz⟩:=Xlw hd
 have hbd:=(Xjl hd).2
 have hlen:=List.length_pos_iff.2 hne
 obtain ⟨p1,p2,p3,p4⟩:=Xdr hne
 have Ht:=Qh (Xom s (by omega) w)
 rw [Xj4 hall] at Ht
 have Ha:=Qh (fun w=>Xfj s hs _ ha w)
 have hx0:=run_at (P:=Tryz.prog) Tryz.underlying9 s 0 0 rfl hlen
 have q1:decide (digits s≤1000000000)=true:=Qt hbd
 generalize digits s=n at Ha hbd q1 ⊢
 have HD:=Qh (show digSet= [48,49,50,51,52,53,54,55,56,57] from rfl)
 rw [HD.out] at Ht
 clear hd ha hall hne
 by_cases hc:(s.getD 0 0).toNat=48
 ·have hs0:=hz hc
  have k1:(((s.getD 0 0).toNat:Int)==48)=true:=by rw [hc];rfl
  have k2:(s== [48])=true:=by rw [hs0];rfl
  have Hs:=Qh hs0
  clear hs0 hc hz
  generalize (s.getD 0 0).toNat=c at hx0 k1
  go_enter Tryz.func91,Tryz.ntmps91
  go_wp2_with fail
  refine Ht.out.mono ?_
  rintro e w1 ⟨rfl,hb1⟩
  go_wp2_with fail
  refine (Ha.out _).mono ?_
  rintro e w2 ⟨rfl,hb2⟩
  go_wp2
  go_ret2
  exact ⟨rfl,hb1.trans (hb2.mono hb1.size)⟩
 ·have k1:(((s.getD 0 0).toNat:Int)==48)=false:=by
   have:((s.getD 0 0).toNat:Int)≠48:=by omega
   simpa using this
  clear hc hz
  generalize (s.getD 0 0).toNat=c at hx0 k1
  go_enter Tryz.func91,Tryz.ntmps91
  go_wp2_with fail
  refine Ht.out.mono ?_
  rintro e w1 ⟨rfl,hb1⟩
  go_wp2_with fail
  refine (Ha.out _).mono ?_
  rintro e w2 ⟨rfl,hb2⟩
  go_wp2
  go_ret2
  exact ⟨rfl,hb1.trans (hb2.mono hb1.size)⟩
set_option maxRecDepth 100000 in
theorem Xkb (I:IH) (hI:Glob I) (p:Bytes) (hp:p.length≤4294967280) (b:Nat) (l:List Ho) (hl:∀h∈l,h.p.length≤4294967280) (w:World) (hw:Ok I w) (hc:w.cell? ⟨b,1,none⟩=some (S p)):PredH 164 #[.pointer (some ⟨b,0,none⟩)] l (fun h=>under h.p p) (Below w.heap.size w):=by
 intro x hx W hW
 have Hu:=Qh (Xhn I hI x.p p (hl x hx) hp (W.alloc (.cells #[S x.p,.int .i64 x.u] 148)) ((hw.below (Qn _) hW).alloc _))
 have hcW:=Xad (.cells #[S x.p,.int .i64 x.u] 148) (Xaa hW hc)
 clear hc
 show Calls Tryz.prog _ #[hoV x,.pointer (some ⟨b,0,none⟩)] W _
 go_enter Tryz.func164,Tryz.ntmps164
 go_wp2_with fail
 refine Hu.out.mono ?_
 rintro e w1 ⟨rfl,hb1⟩
 go_wp2
 go_ret
 exact ⟨rfl,((Qb _ _).alloc (Qn _) _).trans (hb1.mono (by simp))⟩
set_option maxRecDepth 100000 in
set_option maxHeartbeats 2000000 in
theorem Xmm (I:IH) (hI:Glob I) (v:Value) (l:List Ho) (hv:RdS tHo I v l) (hk:HOk l) (hn:l.length≤100000) (e:Ent) (va vx:Value) (hva:RdS tAt I va e.attrs) (hvx:RdS tXt I vx e.exts) (hp:e.path.length≤4294967280) (d:Int) (w:World) (hw:Ok I w):
 Calls Tryz.prog 112 #[v,entV e va vx,.int .i64 d] w fun r w'=>r= .returned (.int .i64 (alwP l e.kind e.path d))∧Below w.heap.size w w':=by
 have Hh:=Qh (fun w hw=>Xso I hI v l hv hk hn e.path hp d w hw)
 have Ha:=Qh (fun w hw=>Xdl I v l hv hn d w hw)
 have HI:=Qh hI
 have Hk:=Qh (hk.act d)
 obtain ⟨ao,cap,rfl,hcap,hcm,_⟩:=id hv
 obtain ⟨aa,ca,rfl,_,_,_⟩:=id hva
 obtain ⟨ax,cx,rfl,_,_,_⟩:=id hvx
 clear hv hva hvx hI hk
 by_cases h1:e.kind=1
 ·have k1:((e.kind:Int)==1)=true:=by simpa using h1
  have Hn:=Qh (show alwP l e.kind e.path d=if heldP l e.path d then 15 else 0 by rw [alwP,if_pos (.inl h1)])
  generalize heldP l e.path d=b at Hh Hn
  clear h1
  go_enter Tryz.func112,Tryz.ntmps112
  go_wp2_with fail
  refine (Hh.out _ (hw.alloc _)).mono ?_
  rintro e1 w1 ⟨rfl,hb1⟩
  have hb1':=((Qb w.heap.size w).alloc (Qn _) (.cells #[.int .i64 e.kind,S e.path,.slice aa e.attrs.length ca,S e.target,.int .i64 e.size,S e.digest,.slice ax e.exts.length cx] 81)).trans (hb1.mono (by simp))
  cases b
  ·go_wp2
   go_ret
   exact ⟨Xaj Hn.out.symm,hb1'⟩
  ·go_wp2
   go_ret
   exact ⟨Xaj Hn.out.symm,hb1'⟩
 have k1:((e.kind:Int)==1)=false:=by simpa using h1
 by_cases h2:e.kind=2
 ·have k2:((e.kind:Int)==2)=true:=by simpa using h2
  have Hn:=Qh (show alwP l e.kind e.path d=if heldP l e.path d then 15 else 0 by rw [alwP,if_pos (.inr (.inl h2))])
  generalize heldP l e.path d=b at Hh Hn
  clear h1 h2
  go_enter Tryz.func112,Tryz.ntmps112
  go_wp2_with fail
  refine (Hh.out _ (hw.alloc _)).mono ?_
  rintro e1 w1 ⟨rfl,hb1⟩
  have hb1':=((Qb w.heap.size w).alloc (Qn _) (.cells #[.int .i64 e.kind,S e.path,.slice aa e.attrs.length ca,S e.target,.int .i64 e.size,S e.digest,.slice ax e.exts.length cx] 81)).trans (hb1.mono (by simp))
  cases b
  ·go_wp2
   go_ret
   exact ⟨Xaj Hn.out.symm,hb1'⟩
  ·go_wp2
   go_ret
   exact ⟨Xaj Hn.out.symm,hb1'⟩
 have k2:((e.kind:Int)==2)=false:=by simpa using h2
 by_cases h3:e.kind=3
 ·have k3:((e.kind:Int)==3)=true:=by simpa using h3
  have Hn:=Qh (show alwP l e.kind e.path d=if heldP l e.path d then 15 else 0 by rw [alwP,if_pos (.inr (.inr h3))])
  generalize heldP l e.path d=b at Hh Hn
  clear h1 h2 h3
  go_enter Tryz.func112,Tryz.ntmps112
  go_wp2_with fail
  refine (Hh.out _ (hw.alloc _)).mono ?_
  rintro e1 w1 ⟨rfl,hb1⟩
  have hb1':=((Qb w.heap.size w).alloc (Qn _) (.cells #[.int .i64 e.kind,S e.path,.slice aa e.attrs.length ca,S e.target,.int .i64 e.size,S e.digest,.slice ax e.exts.length cx] 81)).trans (hb1.mono (by simp))
  cases b
  ·go_wp2
   go_ret
   exact ⟨Xaj Hn.out.symm,hb1'⟩
  ·go_wp2
   go_ret
   exact ⟨Xaj Hn.out.symm,hb1'⟩
 have k3:((e.kind:Int)==3)=false:=by simpa using h3
 have hno:¬(e.kind=1∨e.kind=2∨e.kind=3):=fun q=>by omega
 by_cases h4:e.kind=4
 case neg=>
  have k4:((e.kind:Int)==4)=false:=by simpa using h4
  have Hn:=Qh (show alwP l e.kind e.path d=0 by rw [alwP,if_neg hno,if_neg h4])
  clear h1 h2 h3 h4 hno
  go_enter Tryz.func112,Tryz.ntmps112
  go_wp2
  go_ret
  exact ⟨Xaj Hn.out.symm,(Qb w.heap.size w).alloc (Qn _) _⟩
 have k4:((e.kind:Int)==4)=true:=by simpa using h4
 have Hn:=Qh (show alwP l e.kind e.path d=if heldP l e.path d || belowP l e.path d then 15 else 0 by rw [alwP,if_neg hno,if_pos h4])
 clear h1 h2 h3 h4 hno
 have Hbe:=Qh (show belowP l e.path d=(actP l d).any (fun h=>under h.p e.path) from rfl)
 generalize heldP l e.path d=b at Hh Hn
 generalize belowP l e.path d=c at Hn Hbe
 go_enter Tryz.func112,Tryz.ntmps112
 go_wp2_with fail
 refine (Hh.out _ (hw.alloc _)).mono ?_
 rintro e1 w1 ⟨rfl,hb1⟩
 have HB1:=Qh (entB (e:=e) rfl hb1)
 have hok1:Ok I w1:=(hw.alloc _).below (Qn _) hb1
 have hb1':=((Qb w.heap.size w).alloc (Qn _) (.cells #[.int .i64 e.kind,S e.path,.slice aa e.attrs.length ca,S e.target,.int .i64 e.size,S e.digest,.slice ax e.exts.length cx] 81)).trans (hb1.mono (by simp))
 clear hb1
 cases b
 case true=>
  go_wp2
  go_ret
  exact ⟨Xaj Hn.out.symm,hb1'⟩
 have Hfr:=Qh (fun b (hb:w1.heap.size≤b)=>hok1.fresh (b:=b) hb)
 go_wp2_with fail
 refine (Ha.out _ hok1).mono ?_
 rintro e2 w2 ⟨v2,rfl,hown,hb2⟩
 have hok2:Ok I w2:=hok1.below (Qn _) hb2
 obtain ⟨I2,hI1,hI2,hI3,_⟩:=hown.freeze hok2 Hfr.out
 have Hp:=Qh (Xkb I2 (HI.out.mono (hI1.keep hok1 (Qn _))) e.path hp w.heap.size (actP l d) Hk.out.short w2 hI2 (HB1.out.thru hb2).c1)
 have Hc:=Qh (Xcg I2 _ _ hI3 _ _ _ w2 hI2 (fun _ _=>by kernel_rfl) Hp.out)
 rw [←Hbe.out] at Hc
 have hb2':=hb1'.trans (hb2.mono hb1'.size)
 obtain ⟨a1,c1,rfl,_,_,_⟩:=id hI3
 clear hb2 hown hI3 hI2 hI1 Ha Hp hb1'
 go_wp2_with fail
 refine Hc.out.mono ?_
 rintro e3 w3 ⟨rfl,hb3⟩
 have hb3':=hb2'.trans (hb3.mono hb2'.size)
 cases c
 ·go_wp2
  go_ret
  exact ⟨Xaj Hn.out.symm,hb3'⟩
 ·go_wp2
  go_ret
  exact ⟨Xaj Hn.out.symm,hb3'⟩
end Go.Proofs.YtmdfjnhfhidmhaaGreatDoor
