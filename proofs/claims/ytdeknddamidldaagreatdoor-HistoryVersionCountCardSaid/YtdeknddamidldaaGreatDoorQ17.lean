/-
  Walks and laws that the claim's theorem uses: texts RhA RhB, joined; comments out. Conditions: as each theorem says.
-/
import Derived.Test.YtdeknddamidldaaGreatDoorQ09
import Derived.Test.YtdeknddamidldaaGreatDoorQ02
namespace Go.Proofs.YtdeknddamidldaaGreatDoor
open Go.RowKit
def tHo:Ty Ho:=Ty.flat 2 (fun x=> [S x.p,.int .i64 x.u]) (fun _=>rfl) (fun _ u h=>by simp at h;rcases h with rfl|rfl<;>rfl)
theorem hoAt {I:IH} {v:Value} {l:List Ho} {w:World} (h:RdS tHo I v l) (hw:Ok I w) (i:Nat) (hi:i<l.length):∃x b off cap,l[i]=x∧v= .slice (some ⟨b,off,none⟩) l.length cap∧
 w.cell? ⟨b,off+i*2,none⟩=some (S x.p)∧w.cell? ⟨b,off+i*2+1,none⟩=some (.int .i64 x.u):=by
 obtain ⟨b,off,cap,cs,hv,hcs,hc⟩:=h.at_ hw hi
 have hcs':cs= [S l[i].p,.int .i64 l[i].u]:=hcs
 subst hcs'
 exact ⟨_,b,off,cap,rfl,hv,hc 0 _ rfl,hc 1 _ rfl⟩
theorem Xjz:(Tryz.prog.info? 88).map (fun i=>(i.zero,i.size,i.bytes))=some (some (.agg #[.string ⟨#[]⟩,.int .i64 0]),2,24):=by kernel_rfl
theorem Xbu:ElemOk Tryz.prog 55 88 tHo 24:=ElemOk.of Tryz.underlying55 Xjz rfl (by decide) rfl
abbrev hoV (x:Ho):Value:= .agg #[S x.p,.int .i64 x.u]
def PredH (g:Nat) (cb:Array Value) (l:List Ho) (p:Ho→Bool) (C:World→Prop):Prop:=
 ∀x∈l,∀W:World,C W→Calls Tryz.prog g (#[hoV x]++cb) W fun e w'=>e= .returned (.bool (p x))∧Below W.heap.size W w'
theorem Xfw (f:Ho→Bool) {a:List Ho} {k:Nat} (hk:k<a.length) {x:Ho} (hx:a[k]=x):(a.take (k+1)).filter f=(a.take k).filter f++(if f x=true then [x] else []):=by
 rw [List.take_succ_eq_append_getElem hk,hx,List.filter_append]
 cases h:f x<;>simp [h]
theorem Xjv {α:Type} {T U:List α} {c:Bool} {p:α} (h:T=U++(if c=true then [p] else [])) (hc:c=true):T=U++ [p]:=by rw [h,if_pos hc]
theorem Xnj {α:Type} {T U:List α} {c:Bool} {p:α} (h:T=U++(if c=true then [p] else [])) (hc:c=false):T=U:=by rw [h,hc,if_neg (by simp),List.append_nil]
theorem OwnS.castH {α:Type} {T:Ty α} {E:TypeId} {I:IH} {w:World} {B:Nat} {v:Value} {l l':List α} (h:OwnS T E I w B v l) (e:l=l'):OwnS T E I w B v l':=e▸h
set_option maxRecDepth 100000 in
set_option maxHeartbeats 1000000 in
theorem Xcf (I:IH) (v:Value) (l:List Ho) (hv:RdS tHo I v l) (hn:l.length≤100000) (g:Nat) (cb:Array Value) (p:Ho→Bool) (w:World) (hw:Ok I w) (eg:∀args w,(callFunc g args).run Tryz.prog w= .ok (.enter g args) w) (hp:PredH g cb l p (Below w.heap.size w)):
 Calls Tryz.prog 103 #[v,.func (.func g) #[] cb] w fun e w'=> ∃v',e= .returned v'∧OwnS tHo 88 I w' w.heap.size v' (l.filter p)∧Below w.heap.size w w':=by
 obtain ⟨ao,cap,rfl,hcap,hcm,_⟩:=id hv
 have Hv:=Qh hv;clear hv
 have Hp:=Qh hp;clear hp
 go_enter Tryz.func103,Tryz.ntmps103
 go_wp2_with fail
 go_loopw [5,10] (fun s5 s10 wr=> ∃k:Nat,k≤l.length∧s10= .int .i64 k∧OwnS tHo 88 I wr w.heap.size s5 ((l.take k).filter p)∧Below w.heap.size w wr) (fun _ i _=>l.length-(intOf i).toNat)
 case atStart=>exact ⟨0,Nat.zero_le _,rfl,OwnS.nil _ _ _ _ _,Qb _ _⟩
 case round=>
  obtain ⟨k,hk,rfl,hown,hb⟩:=hrel
  have Hown:=Qh hown
  clear hown
  have hwr:Ok I wr:=hw.below (Qn _) hb
  have hfl:((l.take k).filter p).length≤k:=Nat.le_trans (List.length_filter_le _ _) (by simp;omega)
  by_cases hlt:k<l.length
  ·obtain ⟨x,b,off,cap',hlx,hvv,c0,c1⟩:=hoAt Hv.out hwr k hlt
   cases hvv
   have Hst:=Qh (Xfw p hlt hlx)
   have Hcall:=Qh (Hp.out x (by rw [←hlx];exact List.getElem_mem hlt) (wr.alloc (.cells #[S x.p,.int .i64 x.u] 88)) (hb.alloc hb.size _))
   clear hlx
   go_wp2_with fail
   refine Hcall.out.mono ?_
   rintro e w1 ⟨rfl,hb1⟩
   have x0:=Xaa hb1 (show (wr.alloc (.cells #[S x.p,.int .i64 x.u] 88)).cell? ⟨wr.heap.size,0,none⟩=some (S x.p) by simp)
   have x1:=Xaa hb1 (show (wr.alloc (.cells #[S x.p,.int .i64 x.u] 88)).cell? ⟨wr.heap.size,1,none⟩=some (.int .i64 x.u) by simp)
   have hb1':=(hb.alloc hb.size (.cells #[S x.p,.int .i64 x.u] 88)).trans (hb1.mono (by have:=hb.size;simp;omega))
   have Hown1:=Qh ((Hown.out.alloc (.cells #[S x.p,.int .i64 x.u] 88)).below hb1)
   have hs1:=hb1'.size
   clear hb1 Hcall c0 c1 Hown
   cases hpx:p x
   ·have Hn:=Qh (Xnj Hst.out hpx)
    clear hpx
    go_wp2
    go_roundw
    case rel=>exact ⟨k+1,by omega,by go_num,Hown1.out.castH Hn.out.symm,hb1'⟩
    case measure=>simp [intOf];omega
   ·have Hn:=Qh (Xjv Hst.out hpx)
    clear hpx
    go_wp2_with (at_builtin;refine Xad (w0:=w1) Xbu rfl _ _ rfl _ _ _ rfl Hown1.out x [S x.p,.int .i64 x.u] _ rfl rfl (by omega) (by omega) hs1 ?_)
    intro v9 w9 hown9 hg9
    have hb9:=Below.own hb1' hg9 Hown1.out (Qn _) hs1
    go_wp2
    go_roundw
    case rel=>exact ⟨k+1,by omega,by go_num,hown9.castH Hn.out.symm,hb9⟩
    case measure=>simp [intOf];omega
  ·have hall:l.take k=l:=List.take_of_length_le (by omega)
   rw [hall] at Hown
   clear hall hfl
   go_wp2
   go_ret
   exact ⟨_,rfl,Hown.out,hb⟩
set_option maxRecDepth 100000 in
set_option maxHeartbeats 1000000 in
theorem Xeg (I:IH) (v:Value) (l:List Ho) (hv:RdS tHo I v l) (g:Nat) (cb:Array Value) (p:Ho→Bool) (w:World) (hw:Ok I w) (eg:∀args w,(callFunc g args).run Tryz.prog w= .ok (.enter g args) w) (hp:PredH g cb l p (Below w.heap.size w)):
 Calls Tryz.prog 106 #[v,.func (.func g) #[] cb] w fun e w'=>e= .returned (.int .i64 (idxL l p))∧Below w.heap.size w w':=by
 have hlen:=hv.len_le
 obtain ⟨ao,cap,rfl,hcap,hcm,_⟩:=id hv
 have Hv:=Qh hv;clear hv
 have Hp:=Qh hp;clear hp
 go_enter Tryz.func106,Tryz.ntmps106
 go_wp2_with fail
 go_loopw [8] (fun s8 wr=> ∃k:Nat,k≤l.length∧s8= .int .i64 k∧(l.take k).any p=false∧Below w.heap.size w wr) (fun i _=>l.length-(intOf i).toNat)
 case atStart=>exact ⟨0,Nat.zero_le _,rfl,rfl,Qb _ _⟩
 case round=>
  obtain ⟨k,hk,rfl,hr,hb⟩:=hrel
  have Hr:=Qh hr;clear hr
  by_cases hlt:k<l.length
  ·have hwr:Ok I wr:=hw.below (Qn _) hb
   obtain ⟨x,b,off,cap',hlx,hvv,c0,c1⟩:=hoAt Hv.out hwr k hlt
   cases hvv
   have Hlx:=Qh hlx
   have Hcall:=Qh (Hp.out x (by rw [←hlx];exact List.getElem_mem hlt) wr hb)
   clear hlx
   go_wp2_with fail
   refine Hcall.out.mono ?_
   rintro e w1 ⟨rfl,hb1⟩
   have hb1':=hb.trans (hb1.mono hb.size)
   clear hb1 Hcall c0 c1
   cases hpx:p x
   ·have Hn:=Qh (show (l.take (k+1)).any p=false by rw [List.take_succ_eq_append_getElem hlt,List.any_append,Hr.out,Hlx.out];simp [hpx])
    clear hpx
    go_wp2
    go_roundw
    case rel=>exact ⟨k+1,by omega,by go_num,Hn.out,hb1'⟩
    case measure=>simp [intOf];omega
   ·have Hn:=Qh (Xdl (p:=p) hlt (by rw [Hlx.out];exact hpx) Hr.out)
    clear hpx
    go_wp2
    go_ret
    exact ⟨Xac Hn.out.symm,hb1'⟩
  ·have Hn:=Qh (show idxL l p= -1 from Xdm (by have:=Hr.out;rwa [List.take_of_length_le (by omega)] at this))
   go_wp2
   go_ret
   exact ⟨Xac Hn.out.symm,hb⟩
set_option maxRecDepth 100000 in
set_option maxHeartbeats 400000 in
theorem Xcw (I:IH) (v:Value) (l:List Ho) (hv:RdS tHo I v l) (g:Nat) (cb:Array Value) (p:Ho→Bool) (w:World) (hw:Ok I w) (eg:∀args w,(callFunc g args).run Tryz.prog w= .ok (.enter g args) w) (hp:PredH g cb l p (Below w.heap.size w)):
 Calls Tryz.prog 101 #[v,.func (.func g) #[] cb] w fun e w'=>e= .returned (.bool (l.any p))∧Below w.heap.size w w':=by
 have Hi:=Qh (Xeg I v l hv g cb p w hw eg hp)
 obtain ⟨ao,cap,rfl,hcap,hcm,_⟩:=id hv
 clear hv hp eg
 rcases Xbp l p with ⟨i,hi,e1,e2,_⟩|⟨e1,e2⟩
 ·have Ha:=Qh (show l.any p=true from List.any_eq_true.2 ⟨l[i],List.getElem_mem hi,e2⟩)
  have hd:decide ((0:Int)≤(i:Int))=true:=Qt (by omega)
  rw [e1] at Hi
  clear e1 e2
  go_enter Tryz.func101,Tryz.ntmps101
  go_wp2_with fail
  refine Hi.out.mono ?_
  rintro e w1 ⟨rfl,hb1⟩
  go_wp2
  go_ret
  exact ⟨Xah Ha.out.symm,hb1⟩
 ·have Ha:=Qh e2
  rw [e1] at Hi
  clear e1 e2
  go_enter Tryz.func101,Tryz.ntmps101
  go_wp2_with fail
  refine Hi.out.mono ?_
  rintro e w1 ⟨rfl,hb1⟩
  go_wp2
  go_ret
  exact ⟨Xah Ha.out.symm,hb1⟩
set_option maxRecDepth 100000 in
theorem Xo7 (d:Int) (b:Nat) (l:List Ho) (w:World) (hc:w.cell? ⟨b,0,none⟩=some (.int .i64 d)):PredH 148 #[.pointer (some ⟨b,0,none⟩)] l (fun h=>decide (d≤h.u)) (Below w.heap.size w):=by
 intro x _ W hW
 have hcW:=Xab (.cells #[S x.p,.int .i64 x.u] 88) (Xaa hW hc)
 clear hc
 show Calls Tryz.prog _ #[hoV x,.pointer (some ⟨b,0,none⟩)] W _
 go_enter Tryz.func148,Tryz.ntmps148
 go_wp2
 go_ret
 exact ⟨rfl,(Qb _ _).alloc (Qn _) _⟩
set_option maxRecDepth 100000 in
theorem Xhd (I:IH) (v:Value) (l:List Ho) (hv:RdS tHo I v l) (hn:l.length≤100000) (d:Int) (w:World) (hw:Ok I w):
 Calls Tryz.prog 102 #[v,.int .i64 d] w fun e w'=> ∃v',e= .returned v'∧OwnS tHo 88 I w' w.heap.size v' (actP l d)∧Below w.heap.size w w':=by
 have Hp:=Qh (Xo7 d w.heap.size l (w.alloc (.cells #[.int .i64 d] 3)) (by simp))
 have Hs:=Qh (Xcf I v l hv hn _ _ _ _ (hw.alloc (.cells #[.int .i64 d] 3)) (fun _ _=>by kernel_rfl) Hp.out)
 obtain ⟨ao,cap,rfl,hcap,hcm,_⟩:=id hv
 clear hv Hp
 go_enter Tryz.func102,Tryz.ntmps102
 go_wp2_with fail
 refine Hs.out.mono ?_
 rintro e w1 ⟨v1,rfl,hown,hb⟩
 go_wp2
 go_ret
 exact ⟨_,rfl,hown.lower (by simp),((Qb _ _).alloc (Qn _) _).trans (hb.mono (by simp))⟩
set_option maxRecDepth 100000 in
theorem Xs7 (I:IH) (hI:Glob I) (p:Bytes) (hp:p.length≤4294967280) (b:Nat) (l:List Ho) (hl:∀h∈l,h.p.length≤4294967280) (w:World) (hw:Ok I w) (hc:w.cell? ⟨b,0,none⟩=some (S p)):PredH 147 #[.pointer (some ⟨b,0,none⟩)] l (fun h=>under p h.p) (Below w.heap.size w):=by
 intro x hx W hW
 have Hu:=Qh (Xgl I hI p x.p hp (hl x hx) (W.alloc (.cells #[S x.p,.int .i64 x.u] 88)) ((hw.below (Qn _) hW).alloc _))
 have hcW:=Xab (.cells #[S x.p,.int .i64 x.u] 88) (Xaa hW hc)
 clear hc
 show Calls Tryz.prog _ #[hoV x,.pointer (some ⟨b,0,none⟩)] W _
 go_enter Tryz.func147,Tryz.ntmps147
 go_wp2_with fail
 refine Hu.out.mono ?_
 rintro e w1 ⟨rfl,hb1⟩
 go_wp2
 go_ret
 exact ⟨rfl,((Qb _ _).alloc (Qn _) _).trans (hb1.mono (by simp))⟩
theorem HOk.short {l:List Ho} (h:HOk l):∀x∈l,x.p.length≤4294967280:=fun x hx=>by have:=(Xa6 (h.path x hx)).1;omega
set_option maxRecDepth 100000 in
set_option maxHeartbeats 400000 in
theorem Xul (I:IH) (hI:Glob I) (v:Value) (l:List Ho) (hv:RdS tHo I v l) (hk:HOk l) (hn:l.length≤100000) (p:Bytes) (hp:p.length≤4294967280) (d:Int) (w:World) (hw:Ok I w):
 Calls Tryz.prog 99 #[v,S p,.int .i64 d] w fun e w'=>e= .returned (.bool (heldP l p d))∧Below w.heap.size w w':=by
 have Ha:=Qh (Xhd I v l hv hn d (w.alloc (.cells #[S p] 9)) (hw.alloc _))
 have Hk:=Qh (hk.act d)
 have Hfr:=Qh (fun b (hb:(w.alloc (.cells #[S p] 9)).heap.size≤b)=>(hw.alloc (.cells #[S p] 9)).fresh (b:=b) hb)
 have HI:=Qh hI
 obtain ⟨ao,cap,rfl,hcap,hcm,_⟩:=id hv
 clear hv hk hI
 go_enter Tryz.func99,Tryz.ntmps99
 go_wp2_with fail
 refine Ha.out.mono ?_
 rintro e w1 ⟨v1,rfl,hown,hb⟩
 have hok1:Ok I w1:=(hw.alloc _).below (Qn _) hb
 obtain ⟨I1,hI1,hI2,hI3,_⟩:=hown.freeze hok1 Hfr.out
 have hc1:w1.cell? ⟨w.heap.size,0,none⟩=some (S p):=Xaa hb (by simp)
 have Hp:=Qh (Xs7 I1 (HI.out.mono (hI1.keep (hw.alloc (.cells #[S p] 9)) (Qn _))) p hp w.heap.size (actP l d) Hk.out.short w1 hI2 hc1)
 have Hc:=Qh (Xcw I1 _ _ hI3 _ _ _ w1 hI2 (fun _ _=>by kernel_rfl) Hp.out)
 have hb':=((Qb w.heap.size w).alloc (Qn _) (.cells #[S p] 9)).trans (hb.mono (by simp))
 obtain ⟨a1,c1,rfl,_,_,_⟩:=id hI3
 clear hb hown hI3 hI2 hI1 hc1 Ha Hp
 go_wp2_with fail
 refine Hc.out.mono ?_
 rintro e w2 ⟨rfl,hb2⟩
 go_wp2
 go_ret
 exact ⟨rfl,hb'.trans (hb2.mono hb'.size)⟩
theorem Xkc {s:Bytes} (h:dateOk s=true):Lib.atoiAll s= .ok (digits s)∧s≠ []∧s.all digC=true∧((s.getD 0 0).toNat=48→s= [48]):=by
 have h':=h
 obtain ⟨n,h1,h2,h3,h4⟩:=(Xop s).1 h
 obtain ⟨u,rfl⟩:=Int.eq_ofNat_of_zero_le h2
 rw [Lib.itoa,if_neg (by omega),Int.toNat_natCast] at h4
 obtain ⟨f1,f2,f3,f4,f5⟩:=Xmc u
 rw [h4] at f1 f2 f3 f4 f5
 have hdg:digits s=u:=by rw [Xfy f1,f3]
 refine ⟨by rw [hdg];exact h1,f2,f1,fun hc=> ?_⟩
 cases s with
 |nil=>exact absurd rfl f2
 |cons c r=>
  have hc':c=48:=by
   apply UInt8.toNat_inj.1
   simpa using hc
  subst hc'
  have hu:u=0:=by
   by_cases k:1≤u
   ·exact absurd rfl (f5 k)
   ·omega
  subst hu
  rw [←h4];first|(rw [Lib.decDigits];rfl)|simp [Lib.decDigits]|decide
def digSet:Bytes:= [48,49,50,51,52,53,54,55,56,57]
set_option maxRecDepth 100000 in
theorem Xpz:∀c:UInt8,digC c=true→digSet.contains c=true:=by
 intro c h
 have hb:=Xet h
 have key:∀n:Fin 256,48≤n.1→n.1≤57→digSet.contains (UInt8.ofNat n.1)=true:=by decide
 have:=key ⟨c.toNat,c.toNat_lt⟩ hb.1 hb.2
 simpa using this
theorem Xmt {s:Bytes} (h:s.all digC=true):Lib.trimS s digSet= []:=by
 rw [Xkl,List.all_eq_true]
 intro c hc
 exact Xpz c (List.all_eq_true.1 h c hc)
theorem Xre (s:Bytes) (hs:s.length≤9223372036854775807) (w:World):
 Calls Tryz.prog 149 #[S s,S digSet] w fun e w'=>e= .returned (S (Lib.trimS s digSet))∧Below w.heap.size w w':=by
 have h:=Tryz.strings_Trim ⟨s.toArray⟩ ⟨digSet.toArray⟩ w (by rw [ByteArray.size_mk',List.size_toArray];exact hs) (by decide) (ascii_of_all (by decide))
 exact h
set_option maxRecDepth 100000 in
set_option maxHeartbeats 1000000 in
theorem Xqr (s:Bytes) (hs:s.length≤4294967280) (hd:dateOk s=true) (w:World):
 Calls Tryz.prog 105 #[S s] w fun e w'=>e= .returned (.tuple #[.int .i64 (digits s),.bool true])∧Below w.heap.size w w':=by
 obtain ⟨ha,hne,hall,hz⟩:=Xkc hd
 have hbd:=(Xfg hd).2
 have hlen:=List.length_pos_iff.2 hne
 obtain ⟨p1,p2,p3,p4⟩:=Xcq hne
 have Ht:=Qh (Xre s (by omega) w)
 rw [Xmt hall] at Ht
 have Ha:=Qh (fun w=>Xhq s hs _ ha w)
 have hx0:=run_at (P:=Tryz.prog) Tryz.underlying9 s 0 0 rfl hlen
 have q1:decide (digits s≤1000000000)=true:=Qt hbd
 generalize digits s=n at Ha hbd q1 ⊢
 have HD:=Qh (show digSet= [48,49,50,51,52,53,54,55,56,57] from rfl)
 rw [HD.out] at Ht
 clear hd ha hall hne
 by_cases hc:(s.getD 0 0).toNat=48
 ·have hs0:=hz hc
  have k1:(((s.getD 0 0).toNat:Int)==48)=true:=by rw [hc];rfl
  have k2:(s== [48])=true:=by rw [hs0];rfl
  have Hs:=Qh hs0
  clear hs0 hc hz
  generalize (s.getD 0 0).toNat=c at hx0 k1
  go_enter Tryz.func105,Tryz.ntmps105
  go_wp2_with fail
  refine Ht.out.mono ?_
  rintro e w1 ⟨rfl,hb1⟩
  go_wp2_with fail
  refine (Ha.out _).mono ?_
  rintro e w2 ⟨rfl,hb2⟩
  go_wp2
  go_ret2
  exact ⟨rfl,hb1.trans (hb2.mono hb1.size)⟩
 ·have k1:(((s.getD 0 0).toNat:Int)==48)=false:=by
   have:((s.getD 0 0).toNat:Int)≠48:=by omega
   simpa using this
  clear hc hz
  generalize (s.getD 0 0).toNat=c at hx0 k1
  go_enter Tryz.func105,Tryz.ntmps105
  go_wp2_with fail
  refine Ht.out.mono ?_
  rintro e w1 ⟨rfl,hb1⟩
  go_wp2_with fail
  refine (Ha.out _).mono ?_
  rintro e w2 ⟨rfl,hb2⟩
  go_wp2
  go_ret2
  exact ⟨rfl,hb1.trans (hb2.mono hb1.size)⟩
set_option maxRecDepth 100000 in
theorem Xmx (I:IH) (hI:Glob I) (p:Bytes) (hp:p.length≤4294967280) (b:Nat) (l:List Ho) (hl:∀h∈l,h.p.length≤4294967280) (w:World) (hw:Ok I w) (hc:w.cell? ⟨b,1,none⟩=some (S p)):PredH 100 #[.pointer (some ⟨b,0,none⟩)] l (fun h=>under h.p p) (Below w.heap.size w):=by
 intro x hx W hW
 have Hu:=Qh (Xgl I hI x.p p (hl x hx) hp (W.alloc (.cells #[S x.p,.int .i64 x.u] 88)) ((hw.below (Qn _) hW).alloc _))
 have hcW:=Xab (.cells #[S x.p,.int .i64 x.u] 88) (Xaa hW hc)
 clear hc
 show Calls Tryz.prog _ #[hoV x,.pointer (some ⟨b,0,none⟩)] W _
 go_enter Tryz.func100,Tryz.ntmps100
 go_wp2_with fail
 refine Hu.out.mono ?_
 rintro e w1 ⟨rfl,hb1⟩
 go_wp2
 go_ret
 exact ⟨rfl,((Qb _ _).alloc (Qn _) _).trans (hb1.mono (by simp))⟩
set_option maxRecDepth 100000 in
set_option maxHeartbeats 2000000 in
theorem Xdw (I:IH) (hI:Glob I) (v:Value) (l:List Ho) (hv:RdS tHo I v l) (hk:HOk l) (hn:l.length≤100000) (e:Ent) (va vx:Value) (hva:RdS tAt I va e.attrs) (hvx:RdS tXt I vx e.exts) (hp:e.path.length≤4294967280) (d:Int) (w:World) (hw:Ok I w):
 Calls Tryz.prog 55 #[v,entV e va vx,.int .i64 d] w fun r w'=>r= .returned (.int .i64 (alwP l e.kind e.path d))∧Below w.heap.size w w':=by
 have Hh:=Qh (fun w hw=>Xul I hI v l hv hk hn e.path hp d w hw)
 have Ha:=Qh (fun w hw=>Xhd I v l hv hn d w hw)
 have HI:=Qh hI
 have Hk:=Qh (hk.act d)
 obtain ⟨ao,cap,rfl,hcap,hcm,_⟩:=id hv
 obtain ⟨aa,ca,rfl,_,_,_⟩:=id hva
 obtain ⟨ax,cx,rfl,_,_,_⟩:=id hvx
 clear hv hva hvx hI hk
 by_cases h1:e.kind=1
 ·have k1:((e.kind:Int)==1)=true:=by simpa using h1
  have Hn:=Qh (show alwP l e.kind e.path d=if heldP l e.path d then 15 else 0 by rw [alwP,if_pos (.inl h1)])
  generalize heldP l e.path d=b at Hh Hn
  clear h1
  go_enter Tryz.func55,Tryz.ntmps55
  go_wp2_with fail
  refine (Hh.out _ (hw.alloc _)).mono ?_
  rintro e1 w1 ⟨rfl,hb1⟩
  have hb1':=((Qb w.heap.size w).alloc (Qn _) (.cells #[.int .i64 e.kind,S e.path,.slice aa e.attrs.length ca,S e.target,.int .i64 e.size,S e.digest,.slice ax e.exts.length cx] 39)).trans (hb1.mono (by simp))
  cases b
  ·go_wp2
   go_ret
   exact ⟨Xac Hn.out.symm,hb1'⟩
  ·go_wp2
   go_ret
   exact ⟨Xac Hn.out.symm,hb1'⟩
 have k1:((e.kind:Int)==1)=false:=by simpa using h1
 by_cases h2:e.kind=2
 ·have k2:((e.kind:Int)==2)=true:=by simpa using h2
  have Hn:=Qh (show alwP l e.kind e.path d=if heldP l e.path d then 15 else 0 by rw [alwP,if_pos (.inr (.inl h2))])
  generalize heldP l e.path d=b at Hh Hn
  clear h1 h2
  go_enter Tryz.func55,Tryz.ntmps55
  go_wp2_with fail
  refine (Hh.out _ (hw.alloc _)).mono ?_
  rintro e1 w1 ⟨rfl,hb1⟩
  have hb1':=((Qb w.heap.size w).alloc (Qn _) (.cells #[.int .i64 e.kind,S e.path,.slice aa e.attrs.length ca,S e.target,.int .i64 e.size,S e.digest,.slice ax e.exts.length cx] 39)).trans (hb1.mono (by simp))
  cases b
  ·go_wp2
   go_ret
   exact ⟨Xac Hn.out.symm,hb1'⟩
  ·go_wp2
   go_ret
   exact ⟨Xac Hn.out.symm,hb1'⟩
 have k2:((e.kind:Int)==2)=false:=by simpa using h2
 by_cases h3:e.kind=3
 ·have k3:((e.kind:Int)==3)=true:=by simpa using h3
  have Hn:=Qh (show alwP l e.kind e.path d=if heldP l e.path d then 15 else 0 by rw [alwP,if_pos (.inr (.inr h3))])
  generalize heldP l e.path d=b at Hh Hn
  clear h1 h2 h3
  go_enter Tryz.func55,Tryz.ntmps55
  go_wp2_with fail
  refine (Hh.out _ (hw.alloc _)).mono ?_
  rintro e1 w1 ⟨rfl,hb1⟩
  have hb1':=((Qb w.heap.size w).alloc (Qn _) (.cells #[.int .i64 e.kind,S e.path,.slice aa e.attrs.length ca,S e.target,.int .i64 e.size,S e.digest,.slice ax e.exts.length cx] 39)).trans (hb1.mono (by simp))
  cases b
  ·go_wp2
   go_ret
   exact ⟨Xac Hn.out.symm,hb1'⟩
  ·go_wp2
   go_ret
   exact ⟨Xac Hn.out.symm,hb1'⟩
 have k3:((e.kind:Int)==3)=false:=by simpa using h3
 have hno:¬(e.kind=1∨e.kind=2∨e.kind=3):=fun q=>by omega
 by_cases h4:e.kind=4
 case neg=>
  have k4:((e.kind:Int)==4)=false:=by simpa using h4
  have Hn:=Qh (show alwP l e.kind e.path d=0 by rw [alwP,if_neg hno,if_neg h4])
  clear h1 h2 h3 h4 hno
  go_enter Tryz.func55,Tryz.ntmps55
  go_wp2
  go_ret
  exact ⟨Xac Hn.out.symm,(Qb w.heap.size w).alloc (Qn _) _⟩
 have k4:((e.kind:Int)==4)=true:=by simpa using h4
 have Hn:=Qh (show alwP l e.kind e.path d=if heldP l e.path d || belowP l e.path d then 15 else 0 by rw [alwP,if_neg hno,if_pos h4])
 clear h1 h2 h3 h4 hno
 have Hbe:=Qh (show belowP l e.path d=(actP l d).any (fun h=>under h.p e.path) from rfl)
 generalize heldP l e.path d=b at Hh Hn
 generalize belowP l e.path d=c at Hn Hbe
 go_enter Tryz.func55,Tryz.ntmps55
 go_wp2_with fail
 refine (Hh.out _ (hw.alloc _)).mono ?_
 rintro e1 w1 ⟨rfl,hb1⟩
 have HB1:=Qh (entB (e:=e) rfl hb1)
 have hok1:Ok I w1:=(hw.alloc _).below (Qn _) hb1
 have hb1':=((Qb w.heap.size w).alloc (Qn _) (.cells #[.int .i64 e.kind,S e.path,.slice aa e.attrs.length ca,S e.target,.int .i64 e.size,S e.digest,.slice ax e.exts.length cx] 39)).trans (hb1.mono (by simp))
 clear hb1
 cases b
 case true=>
  go_wp2
  go_ret
  exact ⟨Xac Hn.out.symm,hb1'⟩
 have Hfr:=Qh (fun b (hb:w1.heap.size≤b)=>hok1.fresh (b:=b) hb)
 go_wp2_with fail
 refine (Ha.out _ hok1).mono ?_
 rintro e2 w2 ⟨v2,rfl,hown,hb2⟩
 have hok2:Ok I w2:=hok1.below (Qn _) hb2
 obtain ⟨I2,hI1,hI2,hI3,_⟩:=hown.freeze hok2 Hfr.out
 have Hp:=Qh (Xmx I2 (HI.out.mono (hI1.keep hok1 (Qn _))) e.path hp w.heap.size (actP l d) Hk.out.short w2 hI2 (HB1.out.thru hb2).c1)
 have Hc:=Qh (Xcw I2 _ _ hI3 _ _ _ w2 hI2 (fun _ _=>by kernel_rfl) Hp.out)
 rw [←Hbe.out] at Hc
 have hb2':=hb1'.trans (hb2.mono hb1'.size)
 obtain ⟨a1,c1,rfl,_,_,_⟩:=id hI3
 clear hb2 hown hI3 hI2 hI1 Ha Hp hb1'
 go_wp2_with fail
 refine Hc.out.mono ?_
 rintro e3 w3 ⟨rfl,hb3⟩
 have hb3':=hb2'.trans (hb3.mono hb2'.size)
 cases c
 ·go_wp2
  go_ret
  exact ⟨Xac Hn.out.symm,hb3'⟩
 ·go_wp2
  go_ret
  exact ⟨Xac Hn.out.symm,hb3'⟩
end Go.Proofs.YtdeknddamidldaaGreatDoor
