/-
  Walks and laws that the claim's theorem uses: texts PeC PtA PtB, joined; comments out. Conditions: as each theorem says.
-/
import Derived.Test.YtdeknddamidldaaGreatDoorQ19
namespace Go.Proofs.YtdeknddamidldaaGreatDoor
open Go.RowKit
theorem Xer (e:Ent):entErr e=
 if e.kind<1∨6<e.kind then 10
 else if pathErr e.path≠0 then pathErr e.path
 else if e.path= []∧e.kind<5 then 1
 else if chk e.attrs≠0 then chk e.attrs
 else if (e.attrs≠ []∧3<e.kind)∨targetOk e=false then 1 else contP e:=rfl
set_option maxRecDepth 100000 in
set_option maxHeartbeats 4000000 in
theorem Xj9 (I:IH) (hI:Glob I) (x:Ent) (va vx:Value) (hva:RdS tAt I va x.attrs) (hvx:RdS tXt I vx x.exts) (hwf:x.Wf) (hpl:x.path.length≤4294967280) (htl:x.target.length≤4294967280) (w:World) (hw:Ok I w):
 Calls Tryz.prog 88 #[entV x va vx] w fun e w'=>e= .returned (.int .i64 (entErr x))∧Below w.heap.size w w':=by
 have hlx:=hvx.len_le
 have hla:=hva.len_le
 have Hct:=Qh (fun w hw=>Xpx I x va vx hva hvx hwf w hw)
 have Htg:=Qh (fun w hw=>Xr3 I hI x htl va vx w hw)
 obtain ⟨ao,cap,rfl,hcap,hcm,_⟩:=id hvx
 obtain ⟨ao2,cap2,rfl,hcap2,hcm2,_⟩:=id hva
 have Hva:=Qh hva
 clear hvx hva
 have Hpc:=Qh (fun w hw=>Xn9 I hI x.path hpl w hw)
 have Hac:=Qh (fun w hw=>Xt7 I _ x.attrs Hva.out hwf.attrs w hw)
 have hs0:=hwf.s0
 have hs1:=hwf.s1
 have hk0:=hwf.k0
 have hk1:=hwf.k1
 have hd1:=hwf.digest
 clear hwf
 by_cases hkl:x.kind<1
 case pos=>
  have Hn:=Qh (show entErr x=10 by rw [Xer,if_pos (.inl hkl)])
  go_enter Tryz.func88,Tryz.ntmps88
  go_wp2
  go_ret
  exact ⟨Xac Hn.out.symm,(Qb _ _).alloc (Qn _) _⟩
 by_cases hkg:6<x.kind
 case pos=>
  have Hn:=Qh (show entErr x=10 by rw [Xer,if_pos (.inr hkg)])
  go_enter Tryz.func88,Tryz.ntmps88
  go_wp2
  go_ret
  exact ⟨Xac Hn.out.symm,(Qb _ _).alloc (Qn _) _⟩
 have He:=Qh (show entErr x=_ by rw [Xer,if_neg (show ¬(x.kind<1∨6<x.kind) by omega)])
 by_cases hpe:pathErr x.path=0
 case neg=>
  obtain ⟨q,hq⟩:∃q,pathErr x.path=q:=⟨_,rfl⟩
  have hn:(q != 0)=true:=by rw [←hq];simpa using hpe
  have Hn:=Qh (show entErr x=q by rw [He.out,if_pos hpe,hq])
  rw [hq] at Hpc
  clear hq hpe
  go_enter Tryz.func88,Tryz.ntmps88
  go_wp2_with fail
  refine (Hpc.out _ (hw.alloc _)).mono ?_
  rintro e w1 ⟨rfl,hb1⟩
  have hb1':Below w.heap.size w w1:=((Qb _ _).alloc (Qn _) _).trans (hb1.mono (by simp))
  have hsz1:w.heap.size<w1.heap.size:=by have:=hb1.size;simp at this;omega
  have hok1:Ok I w1:=(hw.alloc _).below (Qn _) hb1
  obtain ⟨c0,c1,c2,c3,c4,c5,c6⟩:=entB rfl hb1
  clear hb1
  go_wp2
  go_ret
  exact ⟨Xac Hn.out.symm,hb1'⟩
 replace He:=Qh (show entErr x=_ by rw [He.out,if_neg (show ¬pathErr x.path≠0 by omega)])
 rw [hpe] at Hpc
 clear hpe
 by_cases he5:x.path= []∧x.kind<5
 case pos=>
  have Hn:=Qh (show entErr x=1 by rw [He.out,if_pos he5])
  obtain ⟨p1,p2,p3,p4⟩:=Xcy he5.1
  have k5:((x.kind:Int) != 5)=true:=by rw [bne_iff_ne];omega
  have k6:((x.kind:Int) != 6)=true:=by rw [bne_iff_ne];omega
  have hk5:=he5.2
  clear he5
  go_enter Tryz.func88,Tryz.ntmps88
  go_wp2_with fail
  refine (Hpc.out _ (hw.alloc _)).mono ?_
  rintro e w1 ⟨rfl,hb1⟩
  have hb1':Below w.heap.size w w1:=((Qb _ _).alloc (Qn _) _).trans (hb1.mono (by simp))
  have hsz1:w.heap.size<w1.heap.size:=by have:=hb1.size;simp at this;omega
  have hok1:Ok I w1:=(hw.alloc _).below (Qn _) hb1
  obtain ⟨c0,c1,c2,c3,c4,c5,c6⟩:=entB rfl hb1
  clear hb1
  go_wp2
  go_ret
  exact ⟨Xac Hn.out.symm,hb1'⟩
 replace He:=Qh (show entErr x=_ by rw [He.out,if_neg he5])
 have hpp:(((x.path== [])=true∧x.path.isEmpty=true∧(!x.path.isEmpty)=false∧(x.path != [])=false)∧(x.kind=5∨x.kind=6))∨((x.path== [])=false∧x.path.isEmpty=false∧(!x.path.isEmpty)=true∧(x.path != [])=true):=by
  by_cases h:x.path= []
  ·left;exact ⟨Xcy h,by have:=Int.not_lt.1 fun h2=>he5 ⟨h,h2⟩;omega⟩
  ·right
   exact Xcq h
 clear he5
 go_enter Tryz.func88,Tryz.ntmps88
 go_wp2_with fail
 refine (Hpc.out _ (hw.alloc _)).mono ?_
 rintro e w1 ⟨rfl,hb1⟩
 have hb1':Below w.heap.size w w1:=((Qb _ _).alloc (Qn _) _).trans (hb1.mono (by simp))
 have hsz1:w.heap.size<w1.heap.size:=by have:=hb1.size;simp at this;omega
 have hok1:Ok I w1:=(hw.alloc _).below (Qn _) hb1
 obtain ⟨c0,c1,c2,c3,c4,c5,c6⟩:=entB rfl hb1
 clear hb1
 clear Hpc
 go_upto_region 6 with fail
 go_cut [31] (fun s31 wx=>s31= .bool false∧w1=wx)
 case first=>
  rcases hpp with ⟨⟨p1,p2,p3,p4⟩,p5|p5⟩|⟨p1,p2,p3,p4⟩
  ·have k5:((x.kind:Int) != 5)=false:=by rw [p5];rfl
   clear p5
   go_wp2_with fail
   go_meet
   exact ⟨rfl,rfl⟩
  ·have k5:((x.kind:Int) != 5)=true:=by rw [p5];rfl
   have k6:((x.kind:Int) != 6)=false:=by rw [p5];rfl
   clear p5
   go_wp2_with fail
   go_meet
   exact ⟨rfl,rfl⟩
  ·go_wp2_with fail
   go_meet
   exact ⟨rfl,rfl⟩
 case rest=>
  obtain ⟨rfl,hcut⟩:=hcut
  subst hcut
  clear hpp
  go_wp2_with fail
  refine (Hac.out _ hok1).mono ?_
  rintro e w2 ⟨rfl,hb2⟩
  have hb2':=hb1'.trans (hb2.mono (Nat.le_of_lt hsz1))
  have hsz2:w.heap.size<w2.heap.size:=by have:=hb2.size;omega
  have hok2:Ok I w2:=hok1.below (Qn _) hb2
  obtain ⟨c0,c1,c2,c3,c4,c5,c6⟩:=EntB.thru (⟨c0,c1,c2,c3,c4,c5,c6⟩:EntB w1 w.heap.size x _ _) hb2
  clear hb2 hb1' hsz1 hok1
  by_cases hca:chk x.attrs=0
  case neg=>
   obtain ⟨q,hq⟩:∃q,chk x.attrs=q:=⟨_,rfl⟩
   have hn:(q != 0)=true:=by rw [←hq];simpa using hca
   have Hn:=Qh (show entErr x=q by rw [He.out,if_pos hca,hq])
   rw [hq]
   clear hq hca
   go_wp2
   go_ret
   exact ⟨Xac Hn.out.symm,hb2'⟩
  replace He:=Qh (show entErr x=_ by rw [He.out,if_neg (show ¬chk x.attrs≠0 by omega)])
  rw [hca]
  clear hca Hac
  go_upto_region 11 with fail
  go_cut [51] (fun s51 wx=> ∃w3,w3=wx∧(s51= .bool true∧entErr x=1∨s51= .bool false∧ ¬((x.attrs≠ []∧3<x.kind)∨targetOk x=false))∧Below w2.heap.size w2 w3)
  case first=>
   have hmain:x.attrs.length<1∨(0<x.attrs.length∧3<x.kind)∨(0<x.attrs.length∧x.kind≤3):=by omega
   rcases hmain with ha|⟨ha,hk3⟩|⟨ha,hk3⟩
   ·have d0:decide (0<x.attrs.length)=false:=Qf (by omega)
    have Ha0:=Qh (show x.attrs= [] from List.eq_nil_of_length_eq_zero (by omega))
    go_wp2_with fail
    refine (Htg.out _ hok2).mono ?_
    rintro e w3 ⟨rfl,hb3⟩
    cases htg:targetOk x
    ·have Hn:=Qh (show entErr x=1 by rw [He.out,if_pos (.inr htg)])
     clear htg
     go_wp2_with fail
     go_meet
     exact ⟨_,rfl,.inl ⟨rfl,Hn.out⟩,hb3⟩
    ·go_wp2_with fail
     go_meet
     refine ⟨_,rfl,.inr ⟨(by first|rfl|(congr 1;exact Qf (by omega))),?_⟩,hb3⟩
     rintro (⟨h1,h2⟩|h1)
     ·first
       |exact h1 Ha0.out
       |omega
     ·rw [htg] at h1;exact absurd h1 (by simp)
   ·have d0:decide (0<x.attrs.length)=true:=Qt ha
    have Hn:=Qh (show entErr x=1 by rw [He.out,if_pos (.inl ⟨by intro e;rw [e] at ha;simp at ha,hk3⟩)])
    go_wp2_with fail
    go_meet
    exact ⟨_,rfl,.inl ⟨(by first|rfl|(congr 1;exact Qt (by omega))),Hn.out⟩,Qb _ _⟩
   ·have d0:decide (0<x.attrs.length)=true:=Qt ha
    go_wp2_with fail
    refine (Htg.out _ hok2).mono ?_
    rintro e w3 ⟨rfl,hb3⟩
    cases htg:targetOk x
    ·have Hn:=Qh (show entErr x=1 by rw [He.out,if_pos (.inr htg)])
     clear htg
     go_wp2_with fail
     go_meet
     exact ⟨_,rfl,.inl ⟨rfl,Hn.out⟩,hb3⟩
    ·go_wp2_with fail
     go_meet
     refine ⟨_,rfl,.inr ⟨(by first|rfl|(congr 1;exact Qf (by omega))),?_⟩,hb3⟩
     rintro (⟨h1,h2⟩|h1)
     ·first
       |exact h1 Ha0.out
       |omega
     ·rw [htg] at h1;exact absurd h1 (by simp)
  case rest=>
   obtain ⟨w3,hw3,htt,hb3⟩:=hcut
   subst hw3
   have hb3':=hb2'.trans (hb3.mono (Nat.le_of_lt hsz2))
   have hok3:Ok I w3:=hok2.below (Qn _) hb3
   obtain ⟨c0,c1,c2,c3,c4,c5,c6⟩:=EntB.thru (⟨c0,c1,c2,c3,c4,c5,c6⟩:EntB w2 w.heap.size x _ _) hb3
   clear hb3 hb2' hsz2 hok2 Htg
   rcases htt with ⟨rfl,hn⟩|⟨rfl,htt⟩
   ·have Hn:=Qh hn
    clear hn
    go_wp2
    go_ret
    exact ⟨Xac Hn.out.symm,hb3'⟩
   have Hn:=Qh (show entErr x=contP x by rw [He.out,if_neg htt])
   clear htt
   go_wp2_with fail
   refine (Hct.out _ hok3).mono ?_
   rintro e w4 ⟨rfl,hb4⟩
   go_wp2
   go_ret
   exact ⟨Xac Hn.out.symm,hb3'.trans (hb4.mono hb3'.size)⟩
def PredE (g:Nat) (cb:Array Value) (l:List Ent) (p:Ent→Bool) (C:World→Prop):Prop:=
 ∀x∈l,∀(a1 a2:Option Addr) (c1 c2:Nat) (W:World),C W→Calls Tryz.prog g (#[entV x (.slice a1 x.attrs.length c1) (.slice a2 x.exts.length c2)]++cb) W fun e w'=>e= .returned (.bool (p x))∧Below W.heap.size W w'
set_option maxRecDepth 100000 in
set_option maxHeartbeats 400000 in
theorem Xeh (I:IH) (v:Value) (l:List Ent) (hv:RdS tEnt I v l) (g:Nat) (cb:Array Value) (p:Ent→Bool) (w:World) (hw:Ok I w) (eg:∀args w,(callFunc g args).run Tryz.prog w= .ok (.enter g args) w) (hp:PredE g cb l p (Below w.heap.size w)):
 Calls Tryz.prog 70 #[v,.func (.func g) #[] cb] w fun e w'=>e= .returned (.int .i64 (idxL l p))∧Below w.heap.size w w':=by
 have hlen:=hv.len_le
 obtain ⟨ao,cap,rfl,hcap,hcm,_⟩:=id hv
 have Hv:=Qh hv;clear hv
 have Hp:=Qh hp;clear hp
 go_enter Tryz.func70,Tryz.ntmps70
 go_wp2_with fail
 go_loopw [8] (fun s8 wr=> ∃k:Nat,k≤l.length∧s8= .int .i64 k∧(l.take k).any p=false∧Below w.heap.size w wr) (fun i _=>l.length-(intOf i).toNat)
 case atStart=>exact ⟨0,Nat.zero_le _,rfl,rfl,Qb _ _⟩
 case round=>
  obtain ⟨k,hk,rfl,hr,hb⟩:=hrel
  have Hr:=Qh hr;clear hr
  by_cases hlt:k<l.length
  ·have hwr:Ok I wr:=hw.below (Qn _) hb
   obtain ⟨x,va,vx,b,off,cap',hlx,hvv,⟨c0,c1,c2,c3,c4,c5,c6⟩,h1,h2⟩:=Xbt Hv.out hwr k hlt
   cases hvv
   obtain ⟨aa,ca,rfl,_,_,_⟩:=id h1
   obtain ⟨ax,cx,rfl,_,_,_⟩:=id h2
   have Hlx:=Qh hlx
   have Hcall:=Qh (Hp.out x (by rw [←hlx];exact List.getElem_mem hlt) aa ax ca cx wr hb)
   clear hlx h1 h2
   go_wp2_with fail
   refine Hcall.out.mono ?_
   rintro e w1 ⟨rfl,hb1⟩
   have hb1':=hb.trans (hb1.mono hb.size)
   clear hb1 Hcall c0 c1 c2 c3 c4 c5 c6
   cases hpx:p x
   ·have Hn:=Qh (show (l.take (k+1)).any p=false by rw [List.take_succ_eq_append_getElem hlt,List.any_append,Hr.out,Hlx.out];simp [hpx])
    clear hpx
    go_wp2
    go_roundw
    case rel=>exact ⟨k+1,by omega,by go_num,Hn.out,hb1'⟩
    case measure=>simp [intOf];omega
   ·have Hn:=Qh (Xdl (p:=p) hlt (by rw [Hlx.out];exact hpx) Hr.out)
    clear hpx
    go_wp2
    go_ret
    exact ⟨Xac Hn.out.symm,hb1'⟩
  ·have Hn:=Qh (show idxL l p= -1 from Xdm (by have:=Hr.out;rwa [List.take_of_length_le (by omega)] at this))
   go_wp2
   go_ret
   exact ⟨Xac Hn.out.symm,hb⟩
set_option maxRecDepth 100000 in
theorem Xty (key:Bytes) (b:Nat) (l:List Ent) (w:World) (hc:w.cell? ⟨b,0,none⟩=some (S key)):PredE 71 #[.pointer (some ⟨b,0,none⟩)] l (fun x=>x.path==key) (Below w.heap.size w):=by
 intro x _ a1 a2 c1 c2 W hW
 have hcW:=Xaa hW hc
 have hc2:=Xab (.cells #[.int .i64 x.kind,S x.path,.slice a1 x.attrs.length c1,S x.target,.int .i64 x.size,S x.digest,.slice a2 x.exts.length c2] 39) hcW
 clear hc hcW
 go_enter Tryz.func71,Tryz.ntmps71
 go_wp2
 go_ret
 exact ⟨rfl,(Qb _ _).alloc (Qn _) _⟩
abbrev isAt (p:Bytes):Ent→Bool:=fun x=>x.path==p
set_option maxRecDepth 100000 in
set_option maxHeartbeats 400000 in
theorem Xsa (I:IH) (v:Value) (t:List Ent) (hv:RdS tEnt I v t) (p:Bytes) (w:World) (hw:Ok I w):
 Calls Tryz.prog 45 #[v,S p] w fun e w'=>e= .returned (.int .i64 (idxL t (isAt p)))∧Below w.heap.size w w':=by
 have Hp:=Qh (Xty p w.heap.size t (w.alloc (.cells #[S p] 9)) (by simp))
 have Hi:=Qh (Xeh I v t hv _ _ _ _ (hw.alloc _) (fun _ _=>by kernel_rfl) Hp.out)
 obtain ⟨ao,cap,rfl,hcap,hcm,_⟩:=id hv
 clear hv
 obtain ⟨q,hq⟩:∃q,idxL t (isAt p)=q:=⟨_,rfl⟩
 have Hq:=Qh hq
 have Hi2:=Qh (Hi.out)
 clear Hi hq
 rw [show (fun x:Ent=>x.path==p)=isAt p from rfl,Hq.out] at Hi2
 rw [Hq.out]
 go_enter Tryz.func45,Tryz.ntmps45
 go_wp2_with fail
 refine Hi2.out.mono ?_
 rintro e w1 ⟨rfl,hb1⟩
 go_wp2
 go_ret
 exact ⟨rfl,((Qb _ _).alloc (Qn _) _).trans (hb1.mono (by simp))⟩
theorem Xlq {t:List Ent} {p:Bytes} {i:Nat} (hi:i<t.length) (hp:isAt p t[i]=true) (hn:(t.take i).any (isAt p)=false):getE t p=(t[i],true):=by
 have:getT t p=some t[i]:=by
  unfold getT
  conv=>lhs;rw [←List.take_append_drop i t]
  rw [List.find?_append,List.drop_eq_getElem_cons hi,List.find?_cons]
  have h2:(t[i].path==p)=true:=hp
  rw [h2]
  have:(t.take i).find? (fun x=>x.path==p)=none:=by
   rw [List.find?_eq_none]
   intro x hx hpx
   rw [List.any_eq_true.2 ⟨x,hx,hpx⟩] at hn
   exact absurd hn (by simp)
  rw [this];rfl
 rw [getE,this]
theorem Xlr {t:List Ent} {p:Bytes} (hn:t.any (isAt p)=false):getE t p=(zeroE,false):=by
 have:getT t p=none:=by
  unfold getT
  rw [List.find?_eq_none]
  intro x hx hpx
  rw [List.any_eq_true.2 ⟨x,hx,hpx⟩] at hn
  exact absurd hn (by simp)
 rw [getE,this]
set_option maxRecDepth 100000 in
set_option maxHeartbeats 1000000 in
theorem Xl2 (I:IH) (v:Value) (t:List Ent) (hv:RdS tEnt I v t) (p:Bytes) (w:World) (hw:Ok I w):
 Calls Tryz.prog 21 #[v,S p] w (RetG I w (getE t p)):=by
 have hlen:=hv.len_le
 have Hf:=Qh (Xsa I v t hv p (w.alloc (.cells zeroRow 39)) (hw.alloc _))
 obtain ⟨ao,cap,rfl,hcap,hcm,_⟩:=id hv
 have Hv:=Qh hv;clear hv
 have hi7:(Tryz.prog.info? 39).map (·.size)=some 7:=by kernel_rfl
 have hz0:=heap_alloc_new w (.cells zeroRow 39)
 have Hz0:=Qh hz0
 clear hz0
 rcases Xbp t (isAt p) with ⟨i,hi,e1,e2,e3⟩|⟨e1,e2⟩
 ·have Hn:=Qh (Xlq hi e2 e3)
  rw [e1] at Hf
  clear e1 e2 e3
  go_enter Tryz.func21,Tryz.ntmps21
  go_wp2_with fail
  refine Hf.out.mono ?_
  rintro e w1 ⟨rfl,hb1⟩
  have hok1:Ok I w1:=(hw.alloc _).below (Qn _) hb1
  have hsz:w.heap.size<w1.heap.size:=by have:=hb1.size;simp at this;omega
  have Hz:=Qh ((hb1.block w.heap.size (by simp)).trans Hz0.out)
  have hb1':=((Qb w.heap.size w).alloc (Qn _) (.cells zeroRow 39)).trans (hb1.mono (by simp))
  clear hb1
  obtain ⟨x,va,vx,b,off,cap',hlx,hvv,⟨c0,c1,c2,c3,c4,c5,c6⟩,h1,h2⟩:=Xbt Hv.out hok1 i hi
  cases hvv
  obtain ⟨aa,ca,rfl,_,_,_⟩:=id h1
  obtain ⟨ax,cx,rfl,_,_,_⟩:=id h2
  have H1:=Qh h1
  have H2:=Qh h2
  rw [hlx] at Hn
  have hone:=Xi5 h1 h2
  clear hlx h1 h2
  go_wp2_with (refine wpList_store_row rfl 39 _ _ rfl w.heap.size (entRow x (.slice aa x.attrs.length ca) (.slice ax x.exts.length cx)) rfl rfl 39 zeroRow Hz.out hi7 rfl hone ?_)
  try simp only [Exit.inBlock,Exit.then]
  refine bodyPost_ret (v:= .tuple #[entV x (.slice aa x.attrs.length ca) (.slice ax x.exts.length cx),.bool true]) ?_ rfl ?_
  ·rw [results_cell_tmp rfl]
   simp [asAddr,run_loadVar_row _ w.heap.size 39 39 (entRow x (.slice aa x.attrs.length ca) (.slice ax x.exts.length cx)) (0,0) _ (setRow_heap _ _ _ _ _ _ Hz.out) Tryz.underlying39 rfl hi7]
  ·rw [Hn.out]
   exact ⟨_,_,rfl,H1.out,H2.out,below_setRow hb1' (Qn _) _⟩
 ·have Hn:=Qh (Xlr e2)
  rw [e1] at Hf
  clear e1 e2
  go_enter Tryz.func21,Tryz.ntmps21
  go_wp2_with fail
  refine Hf.out.mono ?_
  rintro e w1 ⟨rfl,hb1⟩
  have Hz:=Qh ((hb1.block w.heap.size (by simp)).trans Hz0.out)
  have hb1':=((Qb w.heap.size w).alloc (Qn _) (.cells zeroRow 39)).trans (hb1.mono (by simp))
  clear hb1
  have hzo:zeroRow.all (·.oneCell')=true:=by simp [Value.oneCell']
  go_wp2_with (refine wpList_store_row rfl 39 _ _ rfl w.heap.size zeroRow rfl rfl 39 zeroRow Hz.out hi7 rfl hzo ?_)
  try simp only [Exit.inBlock,Exit.then]
  refine bodyPost_ret (v:= .tuple #[.agg zeroRow,.bool false]) ?_ rfl ?_
  ·rw [results_cell_tmp rfl]
   simp [asAddr,run_loadVar_row _ w.heap.size 39 39 zeroRow (0,0) _ (setRow_heap _ _ _ _ _ _ Hz.out) Tryz.underlying39 rfl hi7]
  ·rw [Hn.out]
   exact ⟨.slice none 0 0,.slice none 0 0,rfl,RdS.nil _ _,RdS.nil _ _,below_setRow hb1' (Qn _) _⟩
set_option maxRecDepth 100000 in
set_option maxHeartbeats 400000 in
theorem Xl1 (I:IH) (v:Value) (t:List Ent) (hv:RdS tEnt I v t) (p:Bytes) (w:World) (hw:Ok I w):
 Calls Tryz.prog 94 #[v,S p] w fun e w'=>e= .returned (.int .i64 (dirErr t p))∧Below w.heap.size w w':=by
 have Hg:=Qh (Xl2 I v t hv p w hw)
 obtain ⟨ao,cap,rfl,hcap,hcm,_⟩:=id hv
 clear hv
 by_cases hp:p= []
 ·obtain ⟨p1,p2,p3,p4⟩:=Xcy hp
  have Hn:=Qh (show dirErr t p=0 by rw [dirErr,if_pos hp])
  clear hp
  generalize getE t p=g at Hg
  obtain ⟨x,b⟩:=g
  go_enter Tryz.func94,Tryz.ntmps94
  go_wp2_with fail
  refine Hg.out.mono ?_
  rintro e w1 ⟨va,vx,rfl,h1,h2,hb1⟩
  obtain ⟨aa,ca,rfl,_,_,_⟩:=id h1
  obtain ⟨ax,cx,rfl,_,_,_⟩:=id h2
  clear h1 h2
  go_wp2
  go_ret
  exact ⟨Xac Hn.out.symm,hb1.alloc hb1.size _⟩
 ·obtain ⟨p1,p2,p3,p4⟩:=Xcq hp
  have Hn:=Qh (Xi6 t p hp)
  clear hp
  generalize getE t p=g at Hn Hg
  obtain ⟨x,b⟩:=g
  go_enter Tryz.func94,Tryz.ntmps94
  go_wp2_with fail
  refine Hg.out.mono ?_
  rintro e w1 ⟨va,vx,rfl,h1,h2,hb1⟩
  obtain ⟨aa,ca,rfl,_,_,_⟩:=id h1
  obtain ⟨ax,cx,rfl,_,_,_⟩:=id h2
  clear h1 h2
  cases b
  ·have Hn2:=Qh (show dirErr t p=9 by rw [Hn.out];rfl)
   go_wp2
   go_ret
   exact ⟨Xac Hn2.out.symm,hb1.alloc hb1.size _⟩
  ·by_cases hk:x.kind=2
   ·have k1:((x.kind:Int) != 2)=false:=by simpa using hk
    have Hn2:=Qh (show dirErr t p=0 by rw [Hn.out];simp [hk])
    clear hk
    go_wp2
    go_ret
    exact ⟨Xac Hn2.out.symm,hb1.alloc hb1.size _⟩
   ·have k1:((x.kind:Int) != 2)=true:=by simpa using hk
    have Hn2:=Qh (show dirErr t p=10 by rw [Hn.out];simp [hk])
    clear hk
    go_wp2
    go_ret
    exact ⟨Xac Hn2.out.symm,hb1.alloc hb1.size _⟩
def inT (k:Int):Bool:=decide (k=1) || decide (k=2) || decide (k=3)
theorem inT_iff {k:Int}:inT k=true↔k=1∨k=2∨k=3:=by simp [inT,or_assoc]
set_option maxRecDepth 100000 in
theorem Xr9 (k:Int) (w:World):Calls Tryz.prog 89 #[.int .i64 k] w fun e w'=>e= .returned (.bool (inT k))∧w=w':=by
 by_cases h1:k=1
 ·have Hn:=Qh (show inT k=true from inT_iff.2 (.inl h1))
  have f1:((k:Int)==1)=true:=by simpa using h1
  clear h1
  go_enter Tryz.func89,Tryz.ntmps89
  go_wp2
  go_ret
  exact ⟨Xah Hn.out.symm,rfl⟩
 by_cases h2:k=2
 ·have Hn:=Qh (show inT k=true from inT_iff.2 (.inr (.inl h2)))
  have f1:((k:Int)==1)=false:=by simpa using h1
  have f2:((k:Int)==2)=true:=by simpa using h2
  clear h1 h2
  go_enter Tryz.func89,Tryz.ntmps89
  go_wp2
  go_ret
  exact ⟨Xah Hn.out.symm,rfl⟩
 by_cases h3:k=3
 ·have Hn:=Qh (show inT k=true from inT_iff.2 (.inr (.inr h3)))
  have f1:((k:Int)==1)=false:=by simpa using h1
  have f2:((k:Int)==2)=false:=by simpa using h2
  have f3:((k:Int)==3)=true:=by simpa using h3
  clear h1 h2 h3
  go_enter Tryz.func89,Tryz.ntmps89
  go_wp2
  go_ret
  exact ⟨Xah Hn.out.symm,rfl⟩
 have Hn:=Qh (show inT k=false by
  cases h:inT k with
  |false=>rfl
  |true=>rcases inT_iff.1 h with h|h|h<;>contradiction)
 have f1:((k:Int)==1)=false:=by simpa using h1
 have f2:((k:Int)==2)=false:=by simpa using h2
 have f3:((k:Int)==3)=false:=by simpa using h3
 clear h1 h2 h3
 go_enter Tryz.func89,Tryz.ntmps89
 go_wp2
 go_ret
 exact ⟨Xah Hn.out.symm,rfl⟩
def SmlT (t:List Ent):Prop:= ∀x∈t,x.path.length≤4294967280∧x.target.length≤4294967280
end Go.Proofs.YtdeknddamidldaaGreatDoor
