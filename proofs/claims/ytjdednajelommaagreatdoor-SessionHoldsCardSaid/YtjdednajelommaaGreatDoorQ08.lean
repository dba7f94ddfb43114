/-
  Walks and laws that the claim's theorem uses: texts PeC PtA PtB PtC, joined; comments out. Conditions: as each theorem says.
-/
import Derived.Test.YtjdednajelommaaGreatDoorQ07
namespace Go.Proofs.YtjdednajelommaaGreatDoor
open Go.RowKit
theorem Xet (e:Ent):entErr e=
 if e.kind<1∨6<e.kind then 10
 else if pathErr e.path≠0 then pathErr e.path
 else if e.path= []∧e.kind<5 then 1
 else if chk e.attrs≠0 then chk e.attrs
 else if (e.attrs≠ []∧3<e.kind)∨targetOk e=false then 1 else contP e:=rfl
set_option maxRecDepth 100000 in
set_option maxHeartbeats 4000000 in
theorem Xgj (I:IH) (hI:Glob I) (x:Ent) (va vx:Value) (hva:RdS tAt I va x.attrs) (hvx:RdS tXt I vx x.exts) (hwf:x.Wf) (hpl:x.path.length≤4294967280) (htl:x.target.length≤4294967280) (w:World) (hw:Ok I w):
 Calls Tryz.prog 66 #[entV x va vx] w fun e w'=>e= .returned (.int .i64 (entErr x))∧Below w.heap.size w w':=by
 have hlx:=hvx.len_le
 have hla:=hva.len_le
 have Hct:=Qh (fun w hw=>Xpp I x va vx hva hvx hwf w hw)
 have Htg:=Qh (fun w hw=>Xrs I hI x htl va vx w hw)
 obtain ⟨ao,cap,rfl,hcap,hcm,_⟩:=id hvx
 obtain ⟨ao2,cap2,rfl,hcap2,hcm2,_⟩:=id hva
 have Hva:=Qh hva
 clear hvx hva
 have Hpc:=Qh (fun w hw=>Xnx I hI x.path hpl w hw)
 have Hac:=Qh (fun w hw=>Xue I _ x.attrs Hva.out hwf.attrs w hw)
 have hs0:=hwf.s0
 have hs1:=hwf.s1
 have hk0:=hwf.k0
 have hk1:=hwf.k1
 have hd1:=hwf.digest
 clear hwf
 by_cases hkl:x.kind<1
 case pos=>
  have Hn:=Qh (show entErr x=10 by rw [Xet,if_pos (.inl hkl)])
  go_enter Tryz.func66,Tryz.ntmps66
  go_wp2
  go_ret
  exact ⟨Xal Hn.out.symm,(Qb _ _).alloc (Qn _) _⟩
 by_cases hkg:6<x.kind
 case pos=>
  have Hn:=Qh (show entErr x=10 by rw [Xet,if_pos (.inr hkg)])
  go_enter Tryz.func66,Tryz.ntmps66
  go_wp2
  go_ret
  exact ⟨Xal Hn.out.symm,(Qb _ _).alloc (Qn _) _⟩
 have He:=Qh (show entErr x=_ by rw [Xet,if_neg (show ¬(x.kind<1∨6<x.kind) by omega)])
 by_cases hpe:pathErr x.path=0
 case neg=>
  obtain ⟨q,hq⟩:∃q,pathErr x.path=q:=⟨_,rfl⟩
  have hn:(q != 0)=true:=by rw [←hq];simpa using hpe
  have Hn:=Qh (show entErr x=q by rw [He.out,if_pos hpe,hq])
  rw [hq] at Hpc
  clear hq hpe
  go_enter Tryz.func66,Tryz.ntmps66
  go_wp2_with fail
  refine (Hpc.out _ (hw.alloc _)).mono ?_
  rintro e w1 ⟨rfl,hb1⟩
  have hb1':Below w.heap.size w w1:=((Qb _ _).alloc (Qn _) _).trans (hb1.mono (by simp))
  have hsz1:w.heap.size<w1.heap.size:=by have:=hb1.size;simp at this;omega
  have hok1:Ok I w1:=(hw.alloc _).below (Qn _) hb1
  obtain ⟨c0,c1,c2,c3,c4,c5,c6⟩:=entB rfl hb1
  clear hb1
  go_wp2
  go_ret
  exact ⟨Xal Hn.out.symm,hb1'⟩
 replace He:=Qh (show entErr x=_ by rw [He.out,if_neg (show ¬pathErr x.path≠0 by omega)])
 rw [hpe] at Hpc
 clear hpe
 by_cases he5:x.path= []∧x.kind<5
 case pos=>
  have Hn:=Qh (show entErr x=1 by rw [He.out,if_pos he5])
  obtain ⟨p1,p2,p3,p4⟩:=Xd5 he5.1
  have k5:((x.kind:Int) != 5)=true:=by rw [bne_iff_ne];omega
  have k6:((x.kind:Int) != 6)=true:=by rw [bne_iff_ne];omega
  have hk5:=he5.2
  clear he5
  go_enter Tryz.func66,Tryz.ntmps66
  go_wp2_with fail
  refine (Hpc.out _ (hw.alloc _)).mono ?_
  rintro e w1 ⟨rfl,hb1⟩
  have hb1':Below w.heap.size w w1:=((Qb _ _).alloc (Qn _) _).trans (hb1.mono (by simp))
  have hsz1:w.heap.size<w1.heap.size:=by have:=hb1.size;simp at this;omega
  have hok1:Ok I w1:=(hw.alloc _).below (Qn _) hb1
  obtain ⟨c0,c1,c2,c3,c4,c5,c6⟩:=entB rfl hb1
  clear hb1
  go_wp2
  go_ret
  exact ⟨Xal Hn.out.symm,hb1'⟩
 replace He:=Qh (show entErr x=_ by rw [He.out,if_neg he5])
 have hpp:(((x.path== [])=true∧x.path.isEmpty=true∧(!x.path.isEmpty)=false∧(x.path != [])=false)∧(x.kind=5∨x.kind=6))∨((x.path== [])=false∧x.path.isEmpty=false∧(!x.path.isEmpty)=true∧(x.path != [])=true):=by
  by_cases h:x.path= []
  ·left;exact ⟨Xd5 h,by have:=Int.not_lt.1 fun h2=>he5 ⟨h,h2⟩;omega⟩
  ·right
   exact Xdx h
 clear he5
 go_enter Tryz.func66,Tryz.ntmps66
 go_wp2_with fail
 refine (Hpc.out _ (hw.alloc _)).mono ?_
 rintro e w1 ⟨rfl,hb1⟩
 have hb1':Below w.heap.size w w1:=((Qb _ _).alloc (Qn _) _).trans (hb1.mono (by simp))
 have hsz1:w.heap.size<w1.heap.size:=by have:=hb1.size;simp at this;omega
 have hok1:Ok I w1:=(hw.alloc _).below (Qn _) hb1
 obtain ⟨c0,c1,c2,c3,c4,c5,c6⟩:=entB rfl hb1
 clear hb1
 clear Hpc
 go_upto_region 6 with fail
 go_cut [31] (fun s31 wx=>s31= .bool false∧w1=wx)
 case first=>
  rcases hpp with ⟨⟨p1,p2,p3,p4⟩,p5|p5⟩|⟨p1,p2,p3,p4⟩
  ·have k5:((x.kind:Int) != 5)=false:=by rw [p5];rfl
   clear p5
   go_wp2_with fail
   go_meet
   exact ⟨rfl,rfl⟩
  ·have k5:((x.kind:Int) != 5)=true:=by rw [p5];rfl
   have k6:((x.kind:Int) != 6)=false:=by rw [p5];rfl
   clear p5
   go_wp2_with fail
   go_meet
   exact ⟨rfl,rfl⟩
  ·go_wp2_with fail
   go_meet
   exact ⟨rfl,rfl⟩
 case rest=>
  obtain ⟨rfl,hcut⟩:=hcut
  subst hcut
  clear hpp
  go_wp2_with fail
  refine (Hac.out _ hok1).mono ?_
  rintro e w2 ⟨rfl,hb2⟩
  have hb2':=hb1'.trans (hb2.mono (Nat.le_of_lt hsz1))
  have hsz2:w.heap.size<w2.heap.size:=by have:=hb2.size;omega
  have hok2:Ok I w2:=hok1.below (Qn _) hb2
  obtain ⟨c0,c1,c2,c3,c4,c5,c6⟩:=EntB.thru (⟨c0,c1,c2,c3,c4,c5,c6⟩:EntB w1 w.heap.size x _ _) hb2
  clear hb2 hb1' hsz1 hok1
  by_cases hca:chk x.attrs=0
  case neg=>
   obtain ⟨q,hq⟩:∃q,chk x.attrs=q:=⟨_,rfl⟩
   have hn:(q != 0)=true:=by rw [←hq];simpa using hca
   have Hn:=Qh (show entErr x=q by rw [He.out,if_pos hca,hq])
   rw [hq]
   clear hq hca
   go_wp2
   go_ret
   exact ⟨Xal Hn.out.symm,hb2'⟩
  replace He:=Qh (show entErr x=_ by rw [He.out,if_neg (show ¬chk x.attrs≠0 by omega)])
  rw [hca]
  clear hca Hac
  go_upto_region 11 with fail
  go_cut [51] (fun s51 wx=> ∃w3,w3=wx∧(s51= .bool true∧entErr x=1∨s51= .bool false∧ ¬((x.attrs≠ []∧3<x.kind)∨targetOk x=false))∧Below w2.heap.size w2 w3)
  case first=>
   have hmain:x.attrs.length<1∨(0<x.attrs.length∧3<x.kind)∨(0<x.attrs.length∧x.kind≤3):=by omega
   rcases hmain with ha|⟨ha,hk3⟩|⟨ha,hk3⟩
   ·have d0:decide (0<x.attrs.length)=false:=Qf (by omega)
    have Ha0:=Qh (show x.attrs= [] from List.eq_nil_of_length_eq_zero (by omega))
    go_wp2_with fail
    refine (Htg.out _ hok2).mono ?_
    rintro e w3 ⟨rfl,hb3⟩
    cases htg:targetOk x
    ·have Hn:=Qh (show entErr x=1 by rw [He.out,if_pos (.inr htg)])
     clear htg
     go_wp2_with fail
     go_meet
     exact ⟨_,rfl,.inl ⟨rfl,Hn.out⟩,hb3⟩
    ·go_wp2_with fail
     go_meet
     refine ⟨_,rfl,.inr ⟨(by first|rfl|(congr 1;exact Qf (by omega))),?_⟩,hb3⟩
     rintro (⟨h1,h2⟩|h1)
     ·first
       |exact h1 Ha0.out
       |omega
     ·rw [htg] at h1;exact absurd h1 (by simp)
   ·have d0:decide (0<x.attrs.length)=true:=Qt ha
    have Hn:=Qh (show entErr x=1 by rw [He.out,if_pos (.inl ⟨by intro e;rw [e] at ha;simp at ha,hk3⟩)])
    go_wp2_with fail
    go_meet
    exact ⟨_,rfl,.inl ⟨(by first|rfl|(congr 1;exact Qt (by omega))),Hn.out⟩,Qb _ _⟩
   ·have d0:decide (0<x.attrs.length)=true:=Qt ha
    go_wp2_with fail
    refine (Htg.out _ hok2).mono ?_
    rintro e w3 ⟨rfl,hb3⟩
    cases htg:targetOk x
    ·have Hn:=Qh (show entErr x=1 by rw [He.out,if_pos (.inr htg)])
     clear htg
     go_wp2_with fail
     go_meet
     exact ⟨_,rfl,.inl ⟨rfl,Hn.out⟩,hb3⟩
    ·go_wp2_with fail
     go_meet
     refine ⟨_,rfl,.inr ⟨(by first|rfl|(congr 1;exact Qf (by omega))),?_⟩,hb3⟩
     rintro (⟨h1,h2⟩|h1)
     ·first
       |exact h1 Ha0.out
       |omega
     ·rw [htg] at h1;exact absurd h1 (by simp)
  case rest=>
   obtain ⟨w3,hw3,htt,hb3⟩:=hcut
   subst hw3
   have hb3':=hb2'.trans (hb3.mono (Nat.le_of_lt hsz2))
   have hok3:Ok I w3:=hok2.below (Qn _) hb3
   obtain ⟨c0,c1,c2,c3,c4,c5,c6⟩:=EntB.thru (⟨c0,c1,c2,c3,c4,c5,c6⟩:EntB w2 w.heap.size x _ _) hb3
   clear hb3 hb2' hsz2 hok2 Htg
   rcases htt with ⟨rfl,hn⟩|⟨rfl,htt⟩
   ·have Hn:=Qh hn
    clear hn
    go_wp2
    go_ret
    exact ⟨Xal Hn.out.symm,hb3'⟩
   have Hn:=Qh (show entErr x=contP x by rw [He.out,if_neg htt])
   clear htt
   go_wp2_with fail
   refine (Hct.out _ hok3).mono ?_
   rintro e w4 ⟨rfl,hb4⟩
   go_wp2
   go_ret
   exact ⟨Xal Hn.out.symm,hb3'.trans (hb4.mono hb3'.size)⟩
def PredE (g:Nat) (cb:Array Value) (l:List Ent) (p:Ent→Bool) (C:World→Prop):Prop:=
 ∀x∈l,∀(a1 a2:Option Addr) (c1 c2:Nat) (W:World),C W→Calls Tryz.prog g (#[entV x (.slice a1 x.attrs.length c1) (.slice a2 x.exts.length c2)]++cb) W fun e w'=>e= .returned (.bool (p x))∧Below W.heap.size W w'
set_option maxRecDepth 100000 in
set_option maxHeartbeats 400000 in
theorem Xem (I:IH) (v:Value) (l:List Ent) (hv:RdS tEnt I v l) (g:Nat) (cb:Array Value) (p:Ent→Bool) (w:World) (hw:Ok I w) (eg:∀args w,(callFunc g args).run Tryz.prog w= .ok (.enter g args) w) (hp:PredE g cb l p (Below w.heap.size w)):
 Calls Tryz.prog 115 #[v,.func (.func g) #[] cb] w fun e w'=>e= .returned (.int .i64 (idxL l p))∧Below w.heap.size w w':=by
 have hlen:=hv.len_le
 obtain ⟨ao,cap,rfl,hcap,hcm,_⟩:=id hv
 have Hv:=Qh hv;clear hv
 have Hp:=Qh hp;clear hp
 go_enter Tryz.func115,Tryz.ntmps115
 go_wp2_with fail
 go_loopw [8] (fun s8 wr=> ∃k:Nat,k≤l.length∧s8= .int .i64 k∧(l.take k).any p=false∧Below w.heap.size w wr) (fun i _=>l.length-(intOf i).toNat)
 case atStart=>exact ⟨0,Nat.zero_le _,rfl,rfl,Qb _ _⟩
 case round=>
  obtain ⟨k,hk,rfl,hr,hb⟩:=hrel
  have Hr:=Qh hr;clear hr
  by_cases hlt:k<l.length
  ·have hwr:Ok I wr:=hw.below (Qn _) hb
   obtain ⟨x,va,vx,b,off,cap',hlx,hvv,⟨c0,c1,c2,c3,c4,c5,c6⟩,h1,h2⟩:=Xeu Hv.out hwr k hlt
   cases hvv
   obtain ⟨aa,ca,rfl,_,_,_⟩:=id h1
   obtain ⟨ax,cx,rfl,_,_,_⟩:=id h2
   have Hlx:=Qh hlx
   have Hcall:=Qh (Hp.out x (by rw [←hlx];exact List.getElem_mem hlt) aa ax ca cx wr hb)
   clear hlx h1 h2
   go_wp2_with fail
   refine Hcall.out.mono ?_
   rintro e w1 ⟨rfl,hb1⟩
   have hb1':=hb.trans (hb1.mono hb.size)
   clear hb1 Hcall c0 c1 c2 c3 c4 c5 c6
   cases hpx:p x
   ·have Hn:=Qh (show (l.take (k+1)).any p=false by rw [List.take_succ_eq_append_getElem hlt,List.any_append,Hr.out,Hlx.out];simp [hpx])
    clear hpx
    go_wp2
    go_roundw
    case rel=>exact ⟨k+1,by omega,by go_num,Hn.out,hb1'⟩
    case measure=>simp [intOf];omega
   ·have Hn:=Qh (Xhi (p:=p) hlt (by rw [Hlx.out];exact hpx) Hr.out)
    clear hpx
    go_wp2
    go_ret
    exact ⟨Xal Hn.out.symm,hb1'⟩
  ·have Hn:=Qh (show idxL l p= -1 from Xhj (by have:=Hr.out;rwa [List.take_of_length_le (by omega)] at this))
   go_wp2
   go_ret
   exact ⟨Xal Hn.out.symm,hb⟩
set_option maxRecDepth 100000 in
theorem Xtz (key:Bytes) (b:Nat) (l:List Ent) (w:World) (hc:w.cell? ⟨b,0,none⟩=some (S key)):PredE 116 #[.pointer (some ⟨b,0,none⟩)] l (fun x=>x.path==key) (Below w.heap.size w):=by
 intro x _ a1 a2 c1 c2 W hW
 have hcW:=Xaa hW hc
 have hc2:=Xai (.cells #[.int .i64 x.kind,S x.path,.slice a1 x.attrs.length c1,S x.target,.int .i64 x.size,S x.digest,.slice a2 x.exts.length c2] 68) hcW
 clear hc hcW
 go_enter Tryz.func116,Tryz.ntmps116
 go_wp2
 go_ret
 exact ⟨rfl,(Qb _ _).alloc (Qn _) _⟩
abbrev isAt (p:Bytes):Ent→Bool:=fun x=>x.path==p
set_option maxRecDepth 100000 in
set_option maxHeartbeats 400000 in
theorem Xry (I:IH) (v:Value) (t:List Ent) (hv:RdS tEnt I v t) (p:Bytes) (w:World) (hw:Ok I w):
 Calls Tryz.prog 65 #[v,S p] w fun e w'=>e= .returned (.int .i64 (idxL t (isAt p)))∧Below w.heap.size w w':=by
 have Hp:=Qh (Xtz p w.heap.size t (w.alloc (.cells #[S p] 9)) (by simp))
 have Hi:=Qh (Xem I v t hv _ _ _ _ (hw.alloc _) (fun _ _=>by kernel_rfl) Hp.out)
 obtain ⟨ao,cap,rfl,hcap,hcm,_⟩:=id hv
 clear hv
 obtain ⟨q,hq⟩:∃q,idxL t (isAt p)=q:=⟨_,rfl⟩
 have Hq:=Qh hq
 have Hi2:=Qh (Hi.out)
 clear Hi hq
 rw [show (fun x:Ent=>x.path==p)=isAt p from rfl,Hq.out] at Hi2
 rw [Hq.out]
 go_enter Tryz.func65,Tryz.ntmps65
 go_wp2_with fail
 refine Hi2.out.mono ?_
 rintro e w1 ⟨rfl,hb1⟩
 go_wp2
 go_ret
 exact ⟨rfl,((Qb _ _).alloc (Qn _) _).trans (hb1.mono (by simp))⟩
theorem Xla {t:List Ent} {p:Bytes} {i:Nat} (hi:i<t.length) (hp:isAt p t[i]=true) (hn:(t.take i).any (isAt p)=false):getE t p=(t[i],true):=by
 have:getT t p=some t[i]:=by
  unfold getT
  conv=>lhs;rw [←List.take_append_drop i t]
  rw [List.find?_append,List.drop_eq_getElem_cons hi,List.find?_cons]
  have h2:(t[i].path==p)=true:=hp
  rw [h2]
  have:(t.take i).find? (fun x=>x.path==p)=none:=by
   rw [List.find?_eq_none]
   intro x hx hpx
   rw [List.any_eq_true.2 ⟨x,hx,hpx⟩] at hn
   exact absurd hn (by simp)
  rw [this];rfl
 rw [getE,this]
theorem Xlb {t:List Ent} {p:Bytes} (hn:t.any (isAt p)=false):getE t p=(zeroE,false):=by
 have:getT t p=none:=by
  unfold getT
  rw [List.find?_eq_none]
  intro x hx hpx
  rw [List.any_eq_true.2 ⟨x,hx,hpx⟩] at hn
  exact absurd hn (by simp)
 rw [getE,this]
set_option maxRecDepth 100000 in
set_option maxHeartbeats 1000000 in
theorem Xuu (I:IH) (v:Value) (t:List Ent) (hv:RdS tEnt I v t) (p:Bytes) (w:World) (hw:Ok I w):
 Calls Tryz.prog 33 #[v,S p] w (RetG I w (getE t p)):=by
 have hlen:=hv.len_le
 have Hf:=Qh (Xry I v t hv p (w.alloc (.cells zeroRow 68)) (hw.alloc _))
 obtain ⟨ao,cap,rfl,hcap,hcm,_⟩:=id hv
 have Hv:=Qh hv;clear hv
 have hi7:(Tryz.prog.info? 68).map (·.size)=some 7:=by kernel_rfl
 have hz0:=heap_alloc_new w (.cells zeroRow 68)
 have Hz0:=Qh hz0
 clear hz0
 rcases Xce t (isAt p) with ⟨i,hi,e1,e2,e3⟩|⟨e1,e2⟩
 ·have Hn:=Qh (Xla hi e2 e3)
  rw [e1] at Hf
  clear e1 e2 e3
  go_enter Tryz.func33,Tryz.ntmps33
  go_wp2_with fail
  refine Hf.out.mono ?_
  rintro e w1 ⟨rfl,hb1⟩
  have hok1:Ok I w1:=(hw.alloc _).below (Qn _) hb1
  have hsz:w.heap.size<w1.heap.size:=by have:=hb1.size;simp at this;omega
  have Hz:=Qh ((hb1.block w.heap.size (by simp)).trans Hz0.out)
  have hb1':=((Qb w.heap.size w).alloc (Qn _) (.cells zeroRow 68)).trans (hb1.mono (by simp))
  clear hb1
  obtain ⟨x,va,vx,b,off,cap',hlx,hvv,⟨c0,c1,c2,c3,c4,c5,c6⟩,h1,h2⟩:=Xeu Hv.out hok1 i hi
  cases hvv
  obtain ⟨aa,ca,rfl,_,_,_⟩:=id h1
  obtain ⟨ax,cx,rfl,_,_,_⟩:=id h2
  have H1:=Qh h1
  have H2:=Qh h2
  rw [hlx] at Hn
  have hone:=Xpo h1 h2
  clear hlx h1 h2
  go_wp2_with (refine wpList_store_row rfl 68 _ _ rfl w.heap.size (entRow x (.slice aa x.attrs.length ca) (.slice ax x.exts.length cx)) rfl rfl 68 zeroRow Hz.out hi7 rfl hone ?_)
  try simp only [Exit.inBlock,Exit.then]
  refine bodyPost_ret (v:= .tuple #[entV x (.slice aa x.attrs.length ca) (.slice ax x.exts.length cx),.bool true]) ?_ rfl ?_
  ·rw [results_cell_tmp rfl]
   simp [asAddr,run_loadVar_row _ w.heap.size 68 68 (entRow x (.slice aa x.attrs.length ca) (.slice ax x.exts.length cx)) (0,0) _ (setRow_heap _ _ _ _ _ _ Hz.out) Tryz.underlying68 rfl hi7]
  ·rw [Hn.out]
   exact ⟨_,_,rfl,H1.out,H2.out,below_setRow hb1' (Qn _) _⟩
 ·have Hn:=Qh (Xlb e2)
  rw [e1] at Hf
  clear e1 e2
  go_enter Tryz.func33,Tryz.ntmps33
  go_wp2_with fail
  refine Hf.out.mono ?_
  rintro e w1 ⟨rfl,hb1⟩
  have Hz:=Qh ((hb1.block w.heap.size (by simp)).trans Hz0.out)
  have hb1':=((Qb w.heap.size w).alloc (Qn _) (.cells zeroRow 68)).trans (hb1.mono (by simp))
  clear hb1
  have hzo:zeroRow.all (·.oneCell')=true:=by simp [Value.oneCell']
  go_wp2_with (refine wpList_store_row rfl 68 _ _ rfl w.heap.size zeroRow rfl rfl 68 zeroRow Hz.out hi7 rfl hzo ?_)
  try simp only [Exit.inBlock,Exit.then]
  refine bodyPost_ret (v:= .tuple #[.agg zeroRow,.bool false]) ?_ rfl ?_
  ·rw [results_cell_tmp rfl]
   simp [asAddr,run_loadVar_row _ w.heap.size 68 68 zeroRow (0,0) _ (setRow_heap _ _ _ _ _ _ Hz.out) Tryz.underlying68 rfl hi7]
  ·rw [Hn.out]
   exact ⟨.slice none 0 0,.slice none 0 0,rfl,RdS.nil _ _,RdS.nil _ _,below_setRow hb1' (Qn _) _⟩
set_option maxRecDepth 100000 in
set_option maxHeartbeats 400000 in
theorem Xlj (I:IH) (v:Value) (t:List Ent) (hv:RdS tEnt I v t) (p:Bytes) (w:World) (hw:Ok I w):
 Calls Tryz.prog 72 #[v,S p] w fun e w'=>e= .returned (.int .i64 (dirErr t p))∧Below w.heap.size w w':=by
 have Hg:=Qh (Xuu I v t hv p w hw)
 obtain ⟨ao,cap,rfl,hcap,hcm,_⟩:=id hv
 clear hv
 by_cases hp:p= []
 ·obtain ⟨p1,p2,p3,p4⟩:=Xd5 hp
  have Hn:=Qh (show dirErr t p=0 by rw [dirErr,if_pos hp])
  clear hp
  generalize getE t p=g at Hg
  obtain ⟨x,b⟩:=g
  go_enter Tryz.func72,Tryz.ntmps72
  go_wp2_with fail
  refine Hg.out.mono ?_
  rintro e w1 ⟨va,vx,rfl,h1,h2,hb1⟩
  obtain ⟨aa,ca,rfl,_,_,_⟩:=id h1
  obtain ⟨ax,cx,rfl,_,_,_⟩:=id h2
  clear h1 h2
  go_wp2
  go_ret
  exact ⟨Xal Hn.out.symm,hb1.alloc hb1.size _⟩
 ·obtain ⟨p1,p2,p3,p4⟩:=Xdx hp
  have Hn:=Qh (Xpq t p hp)
  clear hp
  generalize getE t p=g at Hn Hg
  obtain ⟨x,b⟩:=g
  go_enter Tryz.func72,Tryz.ntmps72
  go_wp2_with fail
  refine Hg.out.mono ?_
  rintro e w1 ⟨va,vx,rfl,h1,h2,hb1⟩
  obtain ⟨aa,ca,rfl,_,_,_⟩:=id h1
  obtain ⟨ax,cx,rfl,_,_,_⟩:=id h2
  clear h1 h2
  cases b
  ·have Hn2:=Qh (show dirErr t p=9 by rw [Hn.out];rfl)
   go_wp2
   go_ret
   exact ⟨Xal Hn2.out.symm,hb1.alloc hb1.size _⟩
  ·by_cases hk:x.kind=2
   ·have k1:((x.kind:Int) != 2)=false:=by simpa using hk
    have Hn2:=Qh (show dirErr t p=0 by rw [Hn.out];simp [hk])
    clear hk
    go_wp2
    go_ret
    exact ⟨Xal Hn2.out.symm,hb1.alloc hb1.size _⟩
   ·have k1:((x.kind:Int) != 2)=true:=by simpa using hk
    have Hn2:=Qh (show dirErr t p=10 by rw [Hn.out];simp [hk])
    clear hk
    go_wp2
    go_ret
    exact ⟨Xal Hn2.out.symm,hb1.alloc hb1.size _⟩
def inT (k:Int):Bool:=decide (k=1) || decide (k=2) || decide (k=3)
theorem inT_iff {k:Int}:inT k=true↔k=1∨k=2∨k=3:=by simp [inT,or_assoc]
set_option maxRecDepth 100000 in
theorem Xrx (k:Int) (w:World):Calls Tryz.prog 67 #[.int .i64 k] w fun e w'=>e= .returned (.bool (inT k))∧w=w':=by
 by_cases h1:k=1
 ·have Hn:=Qh (show inT k=true from inT_iff.2 (.inl h1))
  have f1:((k:Int)==1)=true:=by simpa using h1
  clear h1
  go_enter Tryz.func67,Tryz.ntmps67
  go_wp2
  go_ret
  exact ⟨Xax Hn.out.symm,rfl⟩
 by_cases h2:k=2
 ·have Hn:=Qh (show inT k=true from inT_iff.2 (.inr (.inl h2)))
  have f1:((k:Int)==1)=false:=by simpa using h1
  have f2:((k:Int)==2)=true:=by simpa using h2
  clear h1 h2
  go_enter Tryz.func67,Tryz.ntmps67
  go_wp2
  go_ret
  exact ⟨Xax Hn.out.symm,rfl⟩
 by_cases h3:k=3
 ·have Hn:=Qh (show inT k=true from inT_iff.2 (.inr (.inr h3)))
  have f1:((k:Int)==1)=false:=by simpa using h1
  have f2:((k:Int)==2)=false:=by simpa using h2
  have f3:((k:Int)==3)=true:=by simpa using h3
  clear h1 h2 h3
  go_enter Tryz.func67,Tryz.ntmps67
  go_wp2
  go_ret
  exact ⟨Xax Hn.out.symm,rfl⟩
 have Hn:=Qh (show inT k=false by
  cases h:inT k with
  |false=>rfl
  |true=>rcases inT_iff.1 h with h|h|h<;>contradiction)
 have f1:((k:Int)==1)=false:=by simpa using h1
 have f2:((k:Int)==2)=false:=by simpa using h2
 have f3:((k:Int)==3)=false:=by simpa using h3
 clear h1 h2 h3
 go_enter Tryz.func67,Tryz.ntmps67
 go_wp2
 go_ret
 exact ⟨Xax Hn.out.symm,rfl⟩
def SmlT (t:List Ent):Prop:= ∀x∈t,x.path.length≤4294967280∧x.target.length≤4294967280
theorem Xbo:(Tryz.prog.info? 68).map (fun i=>(i.zero,i.size,i.bytes))=some (some (.agg #[.int .i64 0,.string ⟨#[]⟩,.slice none 0 0,.string ⟨#[]⟩,.int .i64 0,.string ⟨#[]⟩,.slice none 0 0]),7,112):=by kernel_rfl
set_option maxRecDepth 100000 in
set_option maxHeartbeats 400000 in
theorem Xbp (I:IH) (v:Value) (l:List _) (hv:RdS tEnt I v l) (w:World) (hw:Ok I w) (hbig:l.length*112≤140737488355328):
 Calls Tryz.prog 54 #[v] w fun e w'=> ∃v',e= .returned v'∧OwnS tEnt 68 I w' w.heap.size v' l∧Below w.heap.size w w':=by
 obtain ⟨i0,hi,hz0,hz1,hz2⟩:=info_parts Xbo
 have q22:∀(w:World) (a:Option Addr) (n c n' c':Nat),(binOp .eql 40 (.slice a n c) (.slice none n' c')).run Tryz.prog w= .ok (.bool a.isNone) w:=fun w a n c n' c'=>Lib.run_eql_slice_nil w _ _ a n c n' c' Tryz.underlying40
 obtain ⟨ao,cap,xs,rfl,hcap,hcm,hL,hx⟩:=hv.cells hw (by decide)
 have HL:=Qh hL
 have Hx:=Qh hx
 clear hL hx hv
 cases ao with
 |none=>
  have h0:l.length=0:=by
   rcases Nat.eq_zero_or_pos l.length with h|h
   ·exact h
   ·obtain ⟨b,off,arr,e,_⟩:=Hx.out h;cases e
  have:l= []:=List.eq_nil_of_length_eq_zero h0
  subst this
  go_enter Tryz.func54,Tryz.ntmps54
  go_wp2
  go_ret
  exact ⟨_,rfl,OwnS.nil _ _ _ _ _,Qb _ _⟩
 |some a=>
  go_enter Tryz.func54,Tryz.ntmps54
  go_wp2_with (at_builtin;refine wpList_append_own _ rfl _ _ 40 rfl w.heap.size 68 i0 _ 7 112 Tryz.underlying40 hi hz0 hz1 hz2 rfl (by decide) _ _ _ rfl (World.ownsRow_made w #[] 0 (Qn _) (Nat.zero_le _) (by simp)) a l.length cap xs rfl ?qc1 ?qc2 ?qc3 ?qc4 ?qc5 ?qc6 ?_)
  case qc1=>exact HL.out.1
  case qc2=>
   intro j u hj
   have hl:0<l.length:=by
    have:=(List.getElem?_eq_some_iff.1 hj).1
    rw [HL.out.1] at this
    rcases Nat.eq_zero_or_pos l.length with h|h
    ·rw [h] at this;omega
    ·exact h
   obtain ⟨b,off,arr,e,_,hb,hc⟩:=Hx.out hl
   cases e
   rw [Addr.add_lit]
   rw [World.cell?_alloc_lt _ _ _ hb]
   exact hc j u hj
  case qc3=>exact HL.out.oneCell
  case qc4=>rw [Nat.zero_add];omega
  case qc5=>rw [Nat.zero_add];exact hbig
  case qc6=>simp
  intro v' w1 hown hgrow _
  go_wp2
  go_ret
  refine ⟨v',rfl,⟨xs,(by have hq:=hown;first|exact hq|(simp at hq;exact hq)),HL.out⟩,?_⟩
  exact ((Qb _ w).alloc (Qn _) _).grown hgrow (by simp) (by intro k hk;simp [Value.ownBlock] at hk;omega)
set_option maxRecDepth 100000 in
set_option maxHeartbeats 2000000 in
theorem Xib (I:IH) (B:Nat) (v:Value) (l:List _) (x:_) (vb:Nat) (news:List Value) (w:World) (hv:OwnS tEnt 68 I w B v l) (hx:tEnt.rd I news x)
 (hvs:∀j u,news[j]? =some u→w.cell? ⟨vb,j,none⟩=some u) (hbig:(l.length+1)*112≤140737488355328) (hB:B≤w.heap.size):
 Calls Tryz.prog 76 #[v,.int .i64 l.length,.slice (some ⟨vb,0,none⟩) 1 1] w fun e w'=> ∃v',e= .returned v'∧OwnS tEnt 68 I w' B v' (l++ [x])∧w.grownBy w' v.ownBlock:=by
 obtain ⟨i0,hi,hz0,hz1,hz2⟩:=info_parts Xbo
 obtain ⟨xs,hown,hL⟩:=hv
 have HL:=Qh hL
 have Hx:=Qh hx
 have Hvs:=Qh hvs
 have hml:maxLen=9223372036854775807:=rfl
 have hlen:l.length≤4611686018427387904:=by omega
 clear hL hx hvs
 have hcase:v= .slice none 0 0∧l.length=0∨ ∃g cap,v= .slice (some ⟨g,0,none⟩) l.length cap∧l.length≤cap∧cap≤9223372036854775807:=by
  rcases hown.2 with h|⟨g,cap,cur,h1,_,_,h2,h3,_⟩
  ·exact .inl h
  ·exact .inr ⟨g,cap,h1,h2,by rw [hml] at h3;exact h3⟩
 have Hml:=Qh hml
 clear hml
 rcases hcase with ⟨rfl,h0⟩|⟨g,cap,rfl,hcap,hcm⟩
 ·have:l= []:=List.eq_nil_of_length_eq_zero h0
  subst this
  go_enter Tryz.func76,Tryz.ntmps76
  go_wp2_with (at_builtin;refine wpList_append_own _ rfl _ _ 40 rfl B 68 i0 _ 7 112 Tryz.underlying40 hi hz0 hz1 hz2 rfl (by decide) _ _ _ rfl hown ⟨vb,0,none⟩ 1 1 news rfl ?qc1 ?qc2 ?qc3 ?qc4 ?qc5 ?qc6 ?_)
  case qc1=>exact tEnt.len Hx.out
  case qc2=>intro j u hj;rw [Addr.add_lit,Nat.zero_add];exact Hvs.out j u hj
  case qc3=>exact tEnt.one Hx.out
  case qc4=>rw [Hml.out];simp
  case qc5=>simp
  case qc6=>exact hB
  intro v' w1 hown1 hgrow _
  go_wp2
  go_ret
  exact ⟨v',rfl,⟨_,hown1,LiesL.append HL.out (LiesL.one Hx.out)⟩,hgrow⟩
 ·go_enter Tryz.func76,Tryz.ntmps76
  go_wp2_with (at_builtin;refine wpList_append_own _ rfl _ _ 40 rfl B 68 i0 _ 7 112 Tryz.underlying40 hi hz0 hz1 hz2 rfl (by decide) _ _ _ rfl hown ⟨vb,0,none⟩ 1 1 news rfl (tEnt.len Hx.out) (fun j u hj=>by rw [Addr.add_lit,Nat.zero_add];exact Hvs.out j u hj) (tEnt.one Hx.out) (by rw [Hml.out];omega) hbig hB ?_)
  all_goals
   intro v' w1 hown1 hgrow _
   go_wp2
   go_ret
   exact ⟨v',rfl,⟨_,by rw [List.length_append];exact hown1,LiesL.append HL.out (LiesL.one Hx.out)⟩,hgrow⟩
set_option maxRecDepth 100000 in
set_option maxHeartbeats 4000000 in
theorem Xgb (I:IH) (B g cap i:Nat) (l:List _) (x:_) (vb:Nat) (tb:TypeId) (news:List Value) (w:World) (hv:OwnS tEnt 68 I w B (.slice (some ⟨g,0,none⟩) l.length cap) l) (hx:tEnt.rd I news x)
 (hvb:w.heap[vb]? =some (.cells news.toArray tb (0,0))) (hne:vb≠g) (hi:i<l.length) (hroom:l.length+1≤cap) (hcm:cap≤9223372036854775807):
 Calls Tryz.prog 76 #[.slice (some ⟨g,0,none⟩) l.length cap,.int .i64 i,.slice (some ⟨vb,0,none⟩) 1 1] w fun e w'=> ∃v',e= .returned v'∧OwnS tEnt 68 I w' B v' (l.take i++x::l.drop i)∧w.grownBy w' (some g):=by
 obtain ⟨i0,hif,hz0,hz1,hz2⟩:=info_parts Xbo
 obtain ⟨xs,⟨hxl,hown⟩,hL⟩:=hv
 rcases hown with ⟨h0,_⟩|⟨g',cap',cur,h1,hBg,hg,_,hcm',hcs,htk⟩
 ·cases h0
 injection h1 with h1a h1b h1c
 injection h1a with h1a
 injection h1a with h1a
 subst h1a h1c
 have hsz:(Tryz.prog.info? 68).map (·.size)=some 7:=by rw [hif];simp [hz1]
 have hnl:news.length=7:=tEnt.len hx
 have hn1:=tEnt.one hx
 have hxl':xs.length=l.length*7:=hxl
 have hcs':cur.size=cap*7:=hcs
 have htk':cur.toList.take xs.length=xs:=by rw [hxl];exact htk
 have hov:∀lb cb,(callFunc 127 #[.slice (some ⟨vb,0,none⟩) 1 1,.slice (some ⟨g,(i+1)*7,none⟩) lb cb]).run Tryz.prog w= .ok (.value (.bool false)) w:=fun lb cb=>by
  rw [run_callFunc_extern Tryz.func127 (by kernel_rfl) (by kernel_rfl) (by kernel_rfl) (e:=Extern.SlicesOverlaps.overlaps #[40,40] #[4]) (by kernel_rfl),
   Lib.run_overlaps_apart w 40 4 68 Tryz.underlying40 7 (fun w=>by simp [go_sem]) ⟨vb,0,none⟩ ⟨g,(i+1)*7,none⟩ 1 1 lb cb hne tb 68 7 cur.size (by simp [World.shape?,hvb,hnl]) (by simp [World.shape?,hg]) (by omega) (by simp [World.frozen?,hvb]) (by simp [World.frozen?,hvb])]
  rfl
 obtain ⟨cur1,hcur1⟩:∃c,c=over cur (i*7+7) (xs.drop (i*7)):=⟨_,rfl⟩
 have hs1:cur1.size=cur.size:=by rw [hcur1];exact Xbg _ _ _ (by rw [List.length_drop];omega)
 obtain ⟨cur2,hcur2⟩:∃c,c=over cur1 (i*7) news:=⟨_,rfl⟩
 have hs2:cur2.size=cur1.size:=by rw [hcur2];exact Xbg _ _ _ (by omega)
 have hfin:cur2.toList.take ((l.length+1)*7)=xs.take (i*7)++news++xs.drop (i*7):=by
  have:=insert_row cur xs news (i*7) 7 (by omega) htk' hnl (by omega)
  rw [←hcur1,←hcur2] at this
  rw [show (l.length+1)*7=xs.length+7 by omega]
  exact this
 have hcp1:∀ty dc sc,(Builtin.copy_ #[40,40] ty #[.slice (some ⟨g,(i+1)*7,none⟩) (l.length-i) dc,.slice (some ⟨g,i*7,none⟩) (l.length+1-i) sc]).run Tryz.prog w.drew= .ok (goInt ((l.length-i:Nat):Int)) (w.drew.setRow g cur1):=fun ty dc sc=>by
  have h:=Xbj (P:=Tryz.prog) w.drew 40 40 ty 68 7 g ((i+1)*7) (l.length-i) dc ⟨g,i*7,none⟩ (l.length+1-i) sc cur 68 (xs.drop (i*7)) Tryz.underlying40 hsz hg (by rw [List.length_drop];simp only [Nat.min_def];split<;>omega)
   (fun j u hj=>by
     rw [Addr.add_lit]
     rw [List.getElem?_drop,←htk',List.getElem?_take] at hj
     split at hj
     ·rw [World.cell?_drew,cell_of_row w g _ cur _ _ hg,←Array.getElem?_toList];exact hj
     ·cases hj) (by rw [List.length_drop];omega) (fun u hu=>hL.oneCell u (List.mem_of_mem_drop hu))
  rw [h,show Nat.min (l.length+1-i) (l.length-i)=l.length-i by simp only [Nat.min_def];split<;>omega,hcur1]
  rw [show (i+1)*7=i*7+7 by omega]
  rfl
 have hg1:(w.drew.setRow g cur1).heap[g]? =some (.cells cur1 68 (0,0)):=setRow_heap w.drew g cur cur1 _ _ hg
 have hcp2:∀ty dc,(Builtin.copy_ #[40,40] ty #[.slice (some ⟨g,i*7,none⟩) (l.length+1-i) dc,.slice (some ⟨vb,0,none⟩) 1 1]).run Tryz.prog (w.drew.setRow g cur1)= .ok (goInt 1) ((w.drew.setRow g cur1).setRow g cur2):=fun ty dc=>by
  have h:=Xbj (P:=Tryz.prog) (w.drew.setRow g cur1) 40 40 ty 68 7 g (i*7) (l.length+1-i) dc ⟨vb,0,none⟩ 1 1 cur1 68 news Tryz.underlying40 hsz hg1 (by rw [hnl];simp only [Nat.min_def];split<;>omega)
   (fun j u hj=>by
     rw [Addr.add_lit,Nat.zero_add]
     have:(w.drew.setRow g cur1).heap[vb]? =some (.cells news.toArray tb (0,0)):=by rw [setRow_other _ _ _ _ hne];exact hvb
     rw [cell_of_row _ vb j _ _ _ this];simpa using hj) (by omega) hn1
  rw [h,show Nat.min 1 (l.length+1-i)=1 by simp only [Nat.min_def];split<;>omega,hcur2]
  rfl
 have Hlen:=Qh (show (xs.take (i*7)++news++xs.drop (i*7)).length=(l.length+1)*7 by simp;omega)
 have Hsz:=Qh (show cur2.size=cap*7 by omega)
 have Hfin:=Qh hfin
 have HL:=Qh hL
 have Hx:=Qh hx
 have Hg1:=Qh hg1
 have hb1:¬(cap=i+1):=by omega
 have hb2:¬(cap=i):=by omega
 clear hfin hL hx hg1 hcur1 hcur2 hxl hxl' hcs hcs' htk htk' hnl hn1 hvb hcm' hg
 have hw1:IntKind.i64.wrap ((i:Int)+1)=(i:Int)+1:=IntWalk.i64_in _ (by omega)
 have hw2:0≤(i:Int)+1:=by omega
 have hw3:((i:Int)+1).toNat=i+1:=by omega
 have hw4:i≤l.length:=by omega
 have hw5:(i:Int)≤(l.length:Int)+1:=by omega
 go_enter Tryz.func76,Tryz.ntmps76
 go_wp2_with (simp only [hov])
 go_region_law (refine step_copy_runI rfl _ _ 40 40 rfl _ _ (by simp [Act.eval,Act.put]) (by simp [Act.eval,Act.put]) (hcp1 _ _ _) ?_)
 go_wp2_with (at_builtin;refine wpList_copy_runI _ rfl _ _ 40 40 rfl _ _ rfl rfl (hcp2 _ _) ?_)
 go_ret
 have hln:(l.take i++x::l.drop i).length=l.length+1:=by simp;omega
 refine ⟨_,rfl,?_,?_⟩
 ·unfold OwnS
  rw [hln]
  refine ⟨xs.take (i*7)++news++xs.drop (i*7),⟨Hlen.out,.inr ⟨g,cap,cur2,rfl,hBg,setRow_heap _ g cur1 cur2 _ _ Hg1.out,by omega,by unfold maxLen;omega,Hsz.out,Hfin.out⟩⟩,?_⟩
  have:=((HL.out.take i).append (LiesL.one Hx.out)).append (HL.out.drop i)
  rwa [show l.take i++ [x]++l.drop i=l.take i++x::l.drop i by simp] at this
 ·have h0:w.grownBy w.drew (some g):=⟨rfl,rfl,rfl,Qn _,fun _ _ _=>rfl⟩
  exact Xbs (Xbs h0 Xaw) Xaw
set_option maxRecDepth 100000 in
set_option maxHeartbeats 4000000 in
theorem Xhu (I:IH) (B g cap i:Nat) (l:List _) (x:_) (vb:Nat) (tb:TypeId) (news:List Value) (w:World) (hv:OwnS tEnt 68 I w B (.slice (some ⟨g,0,none⟩) l.length cap) l) (hx:tEnt.rd I news x)
 (hvb:w.heap[vb]? =some (.cells news.toArray tb (0,0))) (hi:i<l.length) (hroom:cap<l.length+1) (hbig:(l.length+1)*112≤140737488355328) (hB:B≤w.heap.size):
 Calls Tryz.prog 76 #[.slice (some ⟨g,0,none⟩) l.length cap,.int .i64 i,.slice (some ⟨vb,0,none⟩) 1 1] w fun e w'=> ∃v',e= .returned v'∧OwnS tEnt 68 I w' B v' (l.take i++x::l.drop i)∧w.grownBy w' (some g):=by
 obtain ⟨i0,hif,hz0,hz1,hz2⟩:=info_parts Xbo
 obtain ⟨xs,⟨hxl,hown⟩,hL⟩:=hv
 rcases hown with ⟨h0,_⟩|⟨g',cap',cur,h1,hBg,hg,hnc,hcm',hcs,htk⟩
 ·cases h0
 injection h1 with h1a h1b h1c
 injection h1a with h1a
 injection h1a with h1a
 subst h1a h1c
 have hsz:(Tryz.prog.info? 68).map (·.size)=some 7:=by rw [hif];simp [hz1]
 have hnl:news.length=7:=tEnt.len hx
 have hn1:=tEnt.one hx
 have hxl':xs.length=l.length*7:=hxl
 have hcs':cur.size=cap*7:=hcs
 have htk':cur.toList.take xs.length=xs:=by rw [hxl];exact htk
 have hgw:g<w.heap.size:=(Array.getElem?_eq_some_iff.1 hg).1
 have hvw:vb<w.heap.size:=(Array.getElem?_eq_some_iff.1 hvb).1
 have hxcell:∀(j:Nat) u,xs[j]? =some u→w.cell? ⟨g,j,none⟩=some u:=fun j u hj=>by
  rw [←htk',List.getElem?_take] at hj
  split at hj
  ·rw [cell_of_row w g _ cur _ _ hg,←Array.getElem?_toList];exact hj
  ·cases hj
 have hold:(Builtin.firstCells i0.size i (.slice (some ⟨g,0,none⟩) i cap)).run Tryz.prog w.drew= .ok (xs.take (i*7)).toArray w.drew:=
  run_firstCells_some w.drew i0.size i ⟨g,0,none⟩ i cap (xs.take (i*7)) (by rw [hz1,List.length_take];omega) (fun j u hj=>by
   rw [Addr.add_lit,Nat.zero_add]
   rw [List.getElem?_take] at hj
   split at hj
   ·exact hxcell j u hj
   ·cases hj)
 obtain ⟨G,hG⟩:∃G,G=grownCap w (l.length+1) cap 68:=⟨_,rfl⟩
 have hGn:l.length+1≤G:=by rw [hG];exact grownCap_ge w _ _ _
 have hG63:G≤9223372036854775807:=by
  have:=grownCap_le_maxLen w (l.length+1) cap 68 (by unfold maxLen;omega)
  rw [←hG] at this
  unfold maxLen at this
  omega
 obtain ⟨z,hz⟩:∃z,i0.zero=some z:=⟨_,hz0⟩
 have hzs:z.cells.size=7:=by rw [hz] at hz0;cases hz0;rfl
 obtain ⟨ROW,hROW⟩:∃ROW:Array Value,ROW=(xs.take (i*7)).toArray++Builtin.zeroCells z.cells (l.length+1-i)++Builtin.zeroCells z.cells (G-(l.length+1)):=⟨_,rfl⟩
 have hRs:ROW.size=G*7:=by
  rw [hROW,Array.size_append,Array.size_append,size_zeroCells,size_zeroCells,hzs]
  simp
  omega
 have hRt:ROW.toList.take (i*7)=xs.take (i*7):=by
  rw [hROW,Array.toList_append,Array.toList_append,List.append_assoc,List.take_append_of_le_length (by simp;omega),List.take_of_length_le (by simp;omega)]
 have hrz:∀ty,(Builtin.append_ #[40,3] ty #[.slice (some ⟨g,0,none⟩) i cap,.int .i64 ((l.length:Int)+1-(i:Int))]).run Tryz.prog w=
  .ok (.slice (some ⟨w.heap.size,0,none⟩) (l.length+1) G) (w.drew.alloc (.cells ROW 68)):=fun ty=>by
  have h:=Lib.run_append_grow_zeros w 40 3 ty 68 i0 z .i64 .i64 Tryz.underlying40 Tryz.underlying3 hif hz (some ⟨g,0,none⟩) i cap (xs.take (i*7)) hold (l.length+1-i) (by omega) (by rw [hz1];omega) (by omega) (by omega) (by rw [hz2];omega) (by rw [hz2,show i+(l.length+1-i)=l.length+1 by omega];exact growslice_fits hroom hbig)
  rw [show i+(l.length+1-i)=l.length+1 by omega,←hG,←hROW] at h
  rw [show (l.length:Int)+1-(i:Int)=((l.length+1-i:Nat):Int) by omega]
  exact h
 obtain ⟨row2,hrow2⟩:∃c,c=over ROW (i*7) news:=⟨_,rfl⟩
 have hs2:row2.size=ROW.size:=by rw [hrow2];exact Xbg _ _ _ (by omega)
 obtain ⟨row3,hrow3⟩:∃c,c=over row2 (i*7+7) (xs.drop (i*7)):=⟨_,rfl⟩
 have hs3:row3.size=row2.size:=by rw [hrow3];exact Xbg _ _ _ (by rw [List.length_drop];omega)
 have hfin:row3.toList.take ((l.length+1)*7)=xs.take (i*7)++news++xs.drop (i*7):=by
  have:=Xhh ROW xs news (i*7) 7 (by omega) hRt hnl (by omega)
  rw [←hrow2,←hrow3] at this
  rw [show (l.length+1)*7=xs.length+7 by omega]
  exact this
 obtain ⟨W1,hW1⟩:∃W1,W1=w.drew.alloc (.cells ROW 68):=⟨_,rfl⟩
 have hN1:W1.heap[w.heap.size]? =some (.cells ROW 68 (0,0)):=by rw [hW1];exact heap_alloc_new w.drew _
 have ho1:∀b,b<w.heap.size→W1.heap[b]? =w.heap[b]? :=fun b hb=>by rw [hW1];exact Below.heap_alloc w.drew _ b hb
 rw [←hW1] at hrz
 have hcpA:∀ty dc,(Builtin.copy_ #[40,40] ty #[.slice (some ⟨w.heap.size,i*7,none⟩) (l.length+1-i) dc,.slice (some ⟨vb,0,none⟩) 1 1]).run Tryz.prog W1= .ok (goInt 1) (W1.setRow w.heap.size row2):=fun ty dc=>by
  have h:=Xbj (P:=Tryz.prog) W1 40 40 ty 68 7 w.heap.size (i*7) (l.length+1-i) dc ⟨vb,0,none⟩ 1 1 ROW 68 news Tryz.underlying40 hsz hN1 (by rw [hnl];simp only [Nat.min_def];split<;>omega)
   (fun j u hj=>by
     rw [Addr.add_lit,Nat.zero_add,cell_of_row _ vb j _ _ _ ((ho1 vb hvw).trans hvb)];simpa using hj) (by omega) hn1
  rw [h,show Nat.min 1 (l.length+1-i)=1 by simp only [Nat.min_def];split<;>omega,hrow2]
  rfl
 have hN2:(W1.setRow w.heap.size row2).heap[w.heap.size]? =some (.cells row2 68 (0,0)):=setRow_heap W1 w.heap.size ROW row2 _ _ hN1
 have hcpB:∀ty dc sc,(Builtin.copy_ #[40,40] ty #[.slice (some ⟨w.heap.size,(i+1)*7,none⟩) (l.length-i) dc,.slice (some ⟨g,i*7,none⟩) (l.length-i) sc]).run Tryz.prog (W1.setRow w.heap.size row2).drew= .ok (goInt ((l.length-i:Nat):Int)) ((W1.setRow w.heap.size row2).drew.setRow w.heap.size row3):=fun ty dc sc=>by
  have h:=Xbj (P:=Tryz.prog) (W1.setRow w.heap.size row2).drew 40 40 ty 68 7 w.heap.size ((i+1)*7) (l.length-i) dc ⟨g,i*7,none⟩ (l.length-i) sc row2 68 (xs.drop (i*7)) Tryz.underlying40 hsz hN2 (by rw [List.length_drop];simp only [Nat.min_def];split<;>omega)
   (fun j u hj=>by
     rw [Addr.add_lit]
     rw [List.getElem?_drop] at hj
     have hgg:(W1.setRow w.heap.size row2).heap[g]? =some (.cells cur 68 (0,0)):=by rw [setRow_other _ _ _ _ (by omega),ho1 g hgw];exact hg
     rw [World.cell?_drew,cell_of_row _ g _ cur _ _ hgg,←cell_of_row w g _ cur _ _ hg]
     exact hxcell _ u hj) (by rw [List.length_drop];omega) (fun u hu=>hL.oneCell u (List.mem_of_mem_drop hu))
  rw [h,show Nat.min (l.length-i) (l.length-i)=l.length-i by simp only [Nat.min_def];split<;>omega,hrow3]
  rw [show (i+1)*7=i*7+7 by omega]
  rfl
 have Hlen:=Qh (show (xs.take (i*7)++news++xs.drop (i*7)).length=(l.length+1)*7 by simp;omega)
 have Hsz:=Qh (show row3.size=G*7 by omega)
 have Hfin:=Qh hfin
 have HL:=Qh hL
 have Hx:=Qh hx
 have HN2:=Qh hN2
 have HW1:=Qh hW1
 have hb1:¬(G=i+1):=by omega
 have hb2:¬(G=i):=by omega
 have hb3:¬(cap=i):=by omega
 clear hfin hL hx hN2 hN1 hrow2 hrow3 hROW hRs hRt hxl hxl' hcs hcs' htk htk' hnl hn1 hvb hcm' hg hold hxcell ho1 hW1 hG hz hz0 hzs hs2 hs3
 have hw1:IntKind.i64.wrap ((i:Int)+1)=(i:Int)+1:=IntWalk.i64_in _ (by omega)
 have hw2:0≤(i:Int)+1:=by omega
 have hw3:((i:Int)+1).toNat=i+1:=by omega
 have hw4:i≤l.length:=by omega
 have hw5:(i:Int)≤(l.length:Int)+1:=by omega
 go_enter Tryz.func76,Tryz.ntmps76
 go_wp2_with (first
  |(at_builtin;refine Lib.wpList_append_run _ rfl _ _ _ _ rfl _ _ rfl rfl _ _ (hrz _) ?_)
  |(at_builtin;refine wpList_copy_runI _ rfl _ _ 40 40 rfl _ _ rfl rfl (hcpA _ _) ?_))
 go_region_law (refine step_copy_runI rfl _ _ 40 40 rfl _ _ (by simp [Act.eval,Act.put]) (by simp [Act.eval,Act.put]) (hcpB _ _ _) ?_)
 go_wp2
 go_ret
 have hln:(l.take i++x::l.drop i).length=l.length+1:=by simp;omega
 refine ⟨_,rfl,?_,?_⟩
 ·unfold OwnS
  rw [hln]
  refine ⟨xs.take (i*7)++news++xs.drop (i*7),⟨Hlen.out,.inr ⟨w.heap.size,G,row3,rfl,hB,setRow_heap _ w.heap.size row2 row3 _ _ HN2.out,hGn,by unfold maxLen;omega,Hsz.out,Hfin.out⟩⟩,?_⟩
  have:=((HL.out.take i).append (LiesL.one Hx.out)).append (HL.out.drop i)
  rwa [show l.take i++ [x]++l.drop i=l.take i++x::l.drop i by simp] at this
 ·rw [HW1.out]
  exact ⟨rfl,rfl,rfl,by simp,fun k hk _=>by
   rw [setRow_other _ _ _ _ (by omega)]
   show ((w.drew.alloc (.cells ROW 68)).setRow w.heap.size row2).heap[k]? =_
   rw [setRow_other _ _ _ _ (by omega)]
   exact Below.heap_alloc w.drew _ k hk⟩
theorem Xpn (I:IH) (B:Nat) (v:Value) (l:List _) (x:_) (vb i:Nat) (tb:TypeId) (news:List Value) (w:World) (hv:OwnS tEnt 68 I w B v l) (hx:tEnt.rd I news x)
 (hvb:w.heap[vb]? =some (.cells news.toArray tb (0,0))) (hne:v.ownBlock≠some vb) (hi:i≤l.length) (hbig:(l.length+1)*112≤140737488355328) (hB:B≤w.heap.size):
 Calls Tryz.prog 76 #[v,.int .i64 i,.slice (some ⟨vb,0,none⟩) 1 1] w fun e w'=> ∃v',e= .returned v'∧OwnS tEnt 68 I w' B v' (l.take i++x::l.drop i)∧w.grownBy w' v.ownBlock:=by
 by_cases he:i=l.length
 ·subst he
  rw [List.take_length,List.drop_length]
  exact Xib I B v l x vb news w hv hx (fun j u hj=>by rw [cell_of_row w vb j _ _ _ hvb];simpa using hj) hbig hB
 ·have hcase:∃g cap,v= .slice (some ⟨g,0,none⟩) l.length cap∧cap≤maxLen:=by
   obtain ⟨xs,⟨_,hown⟩,_⟩:=hv
   rcases hown with ⟨_,h⟩|⟨g,cap,cur,h1,_,_,_,h3,_⟩
   ·omega
   ·exact ⟨g,cap,h1,h3⟩
  obtain ⟨g,cap,rfl,hcm⟩:=hcase
  by_cases hr:l.length+1≤cap
  ·exact Xgb I B g cap i l x vb tb news w hv hx hvb (fun e=>hne (by rw [e];rfl)) (by omega) hr (by unfold maxLen at hcm;omega)
  ·exact Xhu I B g cap i l x vb tb news w hv hx hvb (by omega) (by omega) hbig hB
end Go.Proofs.YtjdednajelommaaGreatDoor
