/-
  Walks and laws that the claim's theorem uses: texts DgB EeP EeA, joined; comments out. Conditions: as each theorem says.
-/
import Derived.Test.YtdodihnehppnmaaGreatDoorTO12
import Derived.Test.YtdodihnehppnmaaGreatDoorTO08
set_option linter.all false
namespace Go.Proofs.YtdodihnehppnmaaGreatDoor
open Go.RowKit
def attK (l:List At) (k:Nat):Bytes:=numP l.length++(l.take k).flatMap fun a=>netP a.k++netP a.v
theorem Xme {l:List At} {k:Nat} (hk:k<l.length) {x:At} (hx:l[k]=x):attK l (k+1)=attK l k++(netP x.k++netP x.v):=by
 rw [attK,attK,List.take_succ_eq_append_getElem hk,hx,List.flatMap_append,←List.append_assoc]
 simp
theorem Xpk (l:List At) {k:Nat} (h:l.length≤k):attK l k=attP l:=by rw [attK,attP,List.take_of_length_le h]
theorem Xpj {l:List At} (hn:l.length≤16) (h:∀a∈l,a.k.length≤32∧a.v.length≤64) (k:Nat):(attK l k).length≤2300:=by
 have h1:=Xkh (l.take k) fun a ha=>h a (List.mem_of_mem_take ha)
 have h2:=Xbd l.length (by omega)
 have h3:(l.take k).length≤l.length:=by simp;omega
 unfold attK
 rw [List.length_append]
 omega
end Go.Proofs.YtdodihnehppnmaaGreatDoor
namespace Go.Proofs.YtdodihnehppnmaaGreatDoor
structure EncOk (x:Ent):Prop where
 k1:1≤x.kind
 k6:x.kind≤6
 natt:x.attrs.length≤16
 att:∀a∈x.attrs,a.k.length≤32∧a.v.length≤64
 target:x.target.length≤200
 s0:0≤x.size
 s1:x.size≤65536
 digest:x.digest.length≤32
 path:x.path.length≤200
 xts:∀y∈x.exts,0≤y.s∧y.s≤255∧0≤y.o∧y.o≤2147483647∧1≤y.n∧y.n≤65536
theorem Xg5 {f:Bool}:∀ {l:List Xt},xtsErr f l=0→ ∀y∈l,xtBad y=false
 | [],_,y,hy=>by cases hy
 |x::l,h,y,hy=>by
  unfold xtsErr at h
  split at h
  ·omega
  split at h
  ·omega
  rename_i k
  rcases List.mem_cons.1 hy with rfl|hy
  ·simpa using k
  ·exact Xg5 h y hy
theorem Xth {x:Xt} (h:xtBad x=false):0≤x.s∧x.s≤255∧0≤x.o∧x.o≤2147483647∧1≤x.n∧x.n≤65536:=by
 unfold xtBad at h
 simp only [Bool.or_eq_false_iff,decide_eq_false_iff_not] at h
 omega
theorem Xbf {x:Ent} (h:entErr x=0):EncOk x:=by
 have hk:=Xbj h
 have hpp:=(Xax hk.2.2.1).1
 unfold entErr at h
 rw [if_neg (by omega)] at h
 by_cases h1:pathErr x.path≠0
 ·rw [if_pos h1] at h;exact absurd h h1
 rw [if_neg h1] at h
 split at h
 ·omega
 by_cases h2:chk x.attrs≠0
 ·rw [if_pos h2] at h;exact absurd h h2
 rw [if_neg h2] at h
 split at h
 ·omega
 rename_i h3
 split at h
 ·omega
 rename_i h4
 split at h
 ·omega
 rename_i h5
 by_cases h6:xtsErr (x.kind==1) x.exts≠0
 ·rw [if_pos h6] at h;exact absurd h h6
 have hc:=Xw3 (l:=x.attrs) (by omega)
 refine ⟨by omega,by omega,hc.1,hc.2,?_,by omega,by omega,?_,by omega,fun y hy=>Xth (Xg5 (f:=x.kind==1) (Classical.byContradiction h6) y hy)⟩
 ·have ht:targetOk x=true:=by
   cases hh:targetOk x with
   |true=>rfl
   |false=>exact absurd (.inr hh) h3
  unfold targetOk at ht
  split at ht
  ·simp at ht;omega
  ·split at ht
   ·have:=Xf6 ht;omega
   ·have:x.target= []:=by simpa using ht
    rw [this];simp
 ·by_cases hk1:x.kind=1
  ·have:¬(x.kind=1∧x.digest.length≠32):=fun q=>h5 (.inl q)
   omega
  ·have:¬(x.kind≠1∧x.digest≠ []):=fun q=>h5 (.inr q)
   have hd:x.digest= []:=Classical.byContradiction fun q=>this ⟨hk1,q⟩
   rw [hd];simp
theorem Xb5 {n:Int} (h0:0≤n) (h1:n≤140737488355200):(numP n).length≤17:=by
 obtain ⟨m,rfl⟩:=Int.eq_ofNat_of_zero_le h0
 exact Xbd m (by omega)
theorem Xd6 {x:Ent} (h:EncOk x):(headE x).length≤2700:=by
 have h1:=Xva h.natt h.att
 have h2:=Xfd x.kind
 have h3:=Xal (nameP x.kind) (by omega)
 have h4:=Xal x.path (by have:=h.path;omega)
 have h5:=Xal x.target (by have:=h.target;omega)
 have h6:=h.path
 have h7:=h.target
 unfold headE
 simp only [List.length_append]
 omega
def encF (e:Ent):Bytes:=netP (headE e)++numP e.size++netP e.digest++numP e.exts.length
def encK (e:Ent) (k:Nat):Bytes:=encF e++xtP (e.exts.take k)
theorem Xsl {e:Ent} {k:Nat} (hk:k<e.exts.length) {x:Xt} (hx:e.exts[k]=x):encK e (k+1)=encK e k++(numP x.s++numP x.o++numP x.n):=by
 rw [encK,encK,List.take_succ_eq_append_getElem hk,hx,xtP,List.flatMap_append,←List.append_assoc]
 simp [xtP]
theorem Xo8 (e:Ent) {k:Nat} (h:e.exts.length≤k):encK e k=encE e:=by rw [encK,List.take_of_length_le h];rfl
theorem Xsk (e:Ent):encK e 0=encF e:=by rw [encK,List.take_zero];simp [xtP]
theorem Xuu {x:Ent} (h:EncOk x) (hx:x.exts.length≤1000):(encF x).length≤2900:=by
 have h1:=Xd6 h
 have h2:=Xal (headE x) (by omega)
 have h3:=Xb5 h.s0 (by have:=h.s1;omega)
 have h4:=Xal x.digest (by have:=h.digest;omega)
 have h5:=Xbd x.exts.length (by omega)
 have h6:=h.digest
 unfold encF
 simp only [List.length_append]
 omega
theorem Xqn:∀ {l:List Xt},(∀y∈l,0≤y.s∧y.s≤255∧0≤y.o∧y.o≤2147483647∧1≤y.n∧y.n≤65536)→(xtP l).length≤51*l.length
 | [],_=>by simp [xtP]
 |y::l,h=>by
  have h1:=h y (List.mem_cons_self ..)
  have h2:=Xqn fun z hz=>h z (List.mem_cons_of_mem _ hz)
  have h3:=Xb5 (n:=y.s) (by omega) (by omega)
  have h4:=Xb5 (n:=y.o) (by omega) (by omega)
  have h5:=Xb5 (n:=y.n) (by omega) (by omega)
  unfold xtP at*
  simp only [List.flatMap_cons,List.length_append,List.length_cons]
  omega
theorem Xo7 {x:Ent} (h:EncOk x) (hx:x.exts.length≤1000) (k:Nat):(encK x k).length≤54000:=by
 have h1:=Xuu h hx
 have h2:=Xqn (l:=x.exts.take k) fun y hy=>h.xts y (List.mem_of_mem_take hy)
 have h3:(x.exts.take k).length≤x.exts.length:=by simp;omega
 unfold encK
 rw [List.length_append]
 omega
theorem Xo9 {x:Ent} (h:EncOk x) (hx:x.exts.length≤1000):(encE x).length≤54000:=by
 rw [←Xo8 x (Qn _)]
 exact Xo7 h hx _
end Go.Proofs.YtdodihnehppnmaaGreatDoor
namespace Go.Proofs.YtdodihnehppnmaaGreatDoor
open Go.RowKit
theorem Xfz (n:Int) (h0:0≤n) (h1:n≤140737488355200) (w:World):
 Calls Tryz.prog 47 #[.int .i64 n] w fun e w'=>e= .returned (S (numP n))∧Below w.heap.size w w':=by
 obtain ⟨m,rfl⟩:=Int.eq_ofNat_of_zero_le h0
 exact Xbl m (by omega) w
theorem Xxz {W:World} {b:Nat} {p q:Bytes} (h0:W.cell? ⟨b,0,none⟩=some (S p)) (h1:W.cell? ⟨b,1,none⟩=some (S q)):StrsAt W b 0 [p,q]:=fun j x hx=>by
 match j with
 |0=>cases hx;exact h0
 |1=>cases hx;exact h1
 |_+2=>simp at hx
set_option maxRecDepth 100000 in
theorem Xuv (k:Int) (h1:1≤k) (h2:k≤6) (w:World):
 Calls Tryz.prog 97 #[] w fun e w'=>e= .returned (.slice (some ⟨w.heap.size,0,none⟩) 6 6)∧w'.cell? ⟨w.heap.size,k.toNat-1,none⟩=some (S (nameP k))∧Below w.heap.size w w'∧w.heap.size<w'.heap.size:=by
 go_enter Tryz.func97,Tryz.ntmps97
 go_wp2
 go_ret
 refine ⟨rfl,?_,(Qb _ _).alloc (Qn _) _,by simp⟩
 have:k=1∨k=2∨k=3∨k=4∨k=5∨k=6:=by omega
 rcases this with rfl|rfl|rfl|rfl|rfl|rfl<;>simp [nameP]
theorem EntB.far {w w':World} {n B:Nat} {e:Ent} {va vx:Value} (h:EntB w n e va vx) (hb:Below B w w') (hn:n<B):EntB w' n e va vx:=
 ⟨(hb.cell hn).trans h.c0,(hb.cell hn).trans h.c1,(hb.cell hn).trans h.c2,(hb.cell hn).trans h.c3,(hb.cell hn).trans h.c4,(hb.cell hn).trans h.c5,(hb.cell hn).trans h.c6⟩
abbrev hdL (n:Nat) (e:Ent) (N:Bytes) (x:Nat × Nat):List (Option Tmp × Value):=
 [(some 13,.slice (some ⟨x.1,0,none⟩) 6 6),(some 14,.pointer (some ⟨n,0,none⟩)),(some 15,.int .i64 e.kind),(some 16,.int .i64 (e.kind-1)),(some 17,.pointer (some ⟨x.1,e.kind.toNat-1,none⟩)),(some 18,S (nameP e.kind)),
  (some 19,.pointer (some ⟨n,1,none⟩)),(some 20,S e.path),(some 21,.slice (some ⟨x.2,0,none⟩) 2 2),(some 22,S N),(some 23,.tuple #[.int .i64 (N.length:Int),.nilIface])]
theorem Xao {n:Nat} {e:Ent} {N:Bytes} {x:Nat × Nat}:ApartF (hdL n e N x):=by
 unfold ApartF
 simp
set_option maxRecDepth 100000 in
set_option maxHeartbeats 4000000 in
theorem Xwk (I:IH) (hI:Glob I) (e:Ent) (va vx:Value) (hva:RdS tAt I va e.attrs) (hvx:RdS tXt I vx e.exts) (hwf:e.Wf) (hpl:e.path.length≤4294967280) (htl:e.target.length≤4294967280) (hc:EncOk e) (he:entErr e=0) (w:World) (hw:Ok I w):
 Calls Tryz.prog 42 #[entV e va vx] w fun r w'=>r= .returned (.tuple #[S (headE e),.int .i64 0])∧Below w.heap.size w w':=by
 have Hck:=Qh (fun w hw=>Xg2 I hI e va vx hva hvx hwf hpl htl w hw)
 obtain ⟨aa,ca,rfl,_,_,_⟩:=id hva
 obtain ⟨ax,cx,rfl,_,_,_⟩:=id hvx
 have k1:=hc.k1
 have k6:=hc.k6
 have hp200:=hc.path
 have ht200:=hc.target
 have hna:=hc.natt
 have Hat:=Qh hc.att
 have Hc:=Qh hc
 rw [he] at Hck
 have i0:IntKind.i64.wrap (e.kind-1)=e.kind-1:=IntWalk.i64_in _ (by omega)
 have i1:0≤e.kind-1:=by omega
 have i2:e.kind-1<6:=by omega
 clear he hc
 go_enter Tryz.func42,Tryz.ntmps42
 go_wp2_with fail
 refine (Hck.out _ (hw.alloc _)).mono ?_
 rintro e1 w1 ⟨rfl,hb1⟩
 have HB1:=Qh (entB (e:=e) rfl hb1)
 have hok1:Ok I w1:=(hw.alloc _).below (Qn _) hb1
 have hb1':=((Qb w.heap.size w).alloc (Qn _) (.cells #[.int .i64 e.kind,S e.path,.slice aa e.attrs.length ca,S e.target,.int .i64 e.size,S e.digest,.slice ax e.exts.length cx] 26)).trans (hb1.mono (by simp))
 have hbd1:Lib.IsBuilder 77 5 w1.heap.size w1.heap.size (Lib.byteCells []) (w1.alloc (.cells #[.pointer none,.slice none 0 0] 77)):=Lib.fresh_isBuilder _ _ w1
 have hsz1:w.heap.size<w1.heap.size:=by have:=hb1.size;simp at this;omega
 go_wp2_with fail
 obtain ⟨c0,c1,c2,c3,c4,c5,c6⟩:=EntB.past HB1.out (.cells #[.pointer none,.slice none 0 0] 77)
 have hnl:=Xal (nameP e.kind) (by have:=Xfd e.kind;omega)
 have hnn:=Xfd e.kind
 have hpn:=Xal e.path (by omega)
 have hns:netsP [nameP e.kind,e.path]=netP (nameP e.kind)++netP e.path:=by simp [netsP]
 have hsl:(netsP [nameP e.kind,e.path]).length≤300:=by rw [hns,List.length_append];omega
 have Hst:=Qh (fun b w hv hw=>Xeu I hI b 0 2 2 [nameP e.kind,e.path] rfl (Qn _) (by decide) w hv (by omega) hw)
 obtain ⟨N,hN⟩:∃N,netsP [nameP e.kind,e.path]=N:=⟨_,rfl⟩
 rw [hN] at Hst hsl
 rw [hns] at hN
 have HN:=Qh hN
 clear hns hN
 obtain ⟨W5,hW5⟩:∃W5,w1.alloc (.cells #[.pointer none,.slice none 0 0] 77)=W5:=⟨_,rfl⟩
 have hbW:Below w1.heap.size w1 W5:=by rw [←hW5];exact (Qb _ _).alloc (Qn _) _
 have hokW:Ok I W5:=by rw [←hW5];exact hok1.alloc _
 have hszW:w1.heap.size<W5.heap.size:=by rw [←hW5];simp
 change Code.wp _ _ _ _ (w1.alloc (.cells #[.pointer none,.slice none 0 0] 77))
 rw [hW5]
 rw [hW5] at hbd1 c0 c1
 have hkn:(e.kind-1).toNat=e.kind.toNat-1:=by omega
 refine Xaj (X:=Nat × Nat) (hdL w.heap.size e N) (QbC W5 10 0 8 [(e.kind.toNat-1,S (nameP e.kind))] [(0,S (nameP e.kind)),(1,S e.path)] (fun w5=>Lib.IsBuilder 77 5 w1.heap.size w1.heap.size (Lib.byteCells N) w5∧w1.heap.size<w5.heap.size∧Below w1.heap.size w1 w5)) (by kernel_rfl) (by kernel_rfl) ?_ ?_ ?_
 ·exact ⟨(0,0),QbC.start _ _⟩
 ·rintro x s a' w' i hsz hcl ha hC hi
  obtain ⟨hun,oi,hoi,hall⟩:=mem_ready.1 hi
  rcases i with _|_|_|_|_|_|_|_|_|_|_|i
  rotate_left 11
  ·simp at hoi
  all_goals
   have hoj:=hoi
   simp at hoi
   subst hoi
   simp [Region.binds] at hall
  ·have hl:s.getD 10 false=false:=Xar hcl [9,8,5,4,0] (by kernel_rfl) (by rfl) hun
   have h4:s.getD 4 false=false:=Xar hcl [0] (by kernel_rfl) (by rfl) hun
   have ha:=ha.trans (Xuq (L:=hdL w.heap.size e N x) (M:=hdL w.heap.size e N (w'.heap.size,x.2)) 0 4 rfl (fun j h0 h4=>by
    rcases j with _|_|_|_|_|j<;>first|rfl|(exact absurd rfl h0)|(exact absurd rfl h4)|simp) hun h4)
   refine wpOp_step hoj (fun K' hK=> ?_)
   rw [if_pos (by rfl)]
   unfold Oper.wp
   simp [go_sem,Oper.upon]
   refine (Xuv e.kind k1 k6 w').mono ?_
   rintro r2 w2 ⟨rfl,hc2,hb2,hsz2⟩
   exact hK _ _ ⟨(w'.heap.size,x.2),Xak (d:=some 13) (v:= .slice (some ⟨w'.heap.size,0,none⟩) 6 6) Xao ha rfl hun,hC.at1 hl hb2 (by decide) (by decide) (fun p hp=>by simp at hp;subst hp;exact hc2)⟩
  ·have e1:a'.tmps[1]?.getD undef= .pointer (some ⟨w.heap.size,0,none⟩):=Xbt ha (by simp)
   have hl:s.getD 10 false=false:=Xar hcl [9,8,5,4,3,2,1] (by kernel_rfl) (by rfl) hun
   refine wpOp_step hoj (fun K' hK=> ?_)
   rw [if_pos (by rfl)]
   unfold Oper.wp
   simp [go_sem,e1,Oper.upon]
   exact hK _ _ ⟨x,Xak (d:=some 14) (v:=(.pointer (some ⟨w.heap.size,0,none⟩))) Xao ha rfl hun,hC.step hl (Qb _ _) (by decide) (by decide) (by decide)⟩
  ·have e14:a'.tmps[14]?.getD undef= .pointer (some ⟨w.heap.size,0,none⟩):=Xba (i:=1) Xao ha rfl (by simpa using hall) (by simp)
   have hl:s.getD 10 false=false:=Xar hcl [9,8,5,4,3,2] (by kernel_rfl) (by rfl) hun
   have c0':=Xaa (hC.bel hl) c0
   refine wpOp_step hoj (fun K' hK=> ?_)
   rw [if_pos (by rfl)]
   unfold Oper.wp
   simp [go_sem,e14,c0',Oper.upon]
   exact hK _ _ ⟨x,Xak (d:=some 15) (v:= .int .i64 e.kind) Xao ha rfl hun,hC.step hl (Qb _ _) (by decide) (by decide) (by decide)⟩
  ·have e15:a'.tmps[15]?.getD undef= .int .i64 e.kind:=Xba (i:=2) Xao ha rfl (by simpa using hall) (by simp)
   have hl:s.getD 10 false=false:=Xar hcl [9,8,5,4,3] (by kernel_rfl) (by rfl) hun
   refine wpOp_step hoj (fun K' hK=> ?_)
   rw [if_pos (by rfl)]
   unfold Oper.wp
   simp [go_sem,e15,Oper.upon,i0]
   exact hK _ _ ⟨x,Xak (d:=some 16) (v:= .int .i64 (e.kind-1)) Xao ha rfl hun,hC.step hl (Qb _ _) (by decide) (by decide) (by decide)⟩
  ·have e13:a'.tmps[13]?.getD undef= .slice (some ⟨x.1,0,none⟩) 6 6:=Xba (i:=0) Xao ha rfl (by simpa using hall.1) (by simp)
   have e16:a'.tmps[16]?.getD undef= .int .i64 (e.kind-1):=Xba (i:=3) Xao ha rfl (by simpa using hall.2) (by simp)
   have hl:s.getD 10 false=false:=Xar hcl [9,8,5,4] (by kernel_rfl) (by rfl) hun
   refine wpOp_step hoj (fun K' hK=> ?_)
   rw [if_pos (by rfl)]
   unfold Oper.wp
   simp [go_sem,e13,e16,i2,hkn,k1,Oper.upon]
   exact hK _ _ ⟨x,Xak (d:=some 17) (v:= .pointer (some ⟨x.1,e.kind.toNat-1,none⟩)) Xao ha rfl hun,hC.step hl (Qb _ _) (by decide) (by decide) (by decide)⟩
  ·have e17:a'.tmps[17]?.getD undef= .pointer (some ⟨x.1,e.kind.toNat-1,none⟩):=Xba (i:=4) Xao ha rfl (by simpa using hall) (by simp)
   have hl:s.getD 10 false=false:=Xar hcl [9,8,5] (by kernel_rfl) (by rfl) hun
   have h0:s.getD 0 false=true:=Xfq hcl [0] 4 0 (by kernel_rfl) (by rfl) (by simpa using hall)
   have hc:=hC.f1 h0 hl _ (List.mem_singleton.2 rfl)
   refine wpOp_step hoj (fun K' hK=> ?_)
   rw [if_pos (by rfl)]
   unfold Oper.wp
   simp [go_sem,e17,hc,Oper.upon]
   exact hK _ _ ⟨x,Xak (d:=some 18) (v:=S (nameP e.kind)) Xao ha rfl hun,hC.step hl (Qb _ _) (by decide) (by decide) (by decide)⟩
  ·have e1:a'.tmps[1]?.getD undef= .pointer (some ⟨w.heap.size,0,none⟩):=Xbt ha (by simp)
   have hl:s.getD 10 false=false:=Xar hcl [9,8,7,6] (by kernel_rfl) (by rfl) hun
   refine wpOp_step hoj (fun K' hK=> ?_)
   rw [if_pos (by rfl)]
   unfold Oper.wp
   simp [go_sem,e1,Oper.upon]
   exact hK _ _ ⟨x,Xak (d:=some 19) (v:=(.pointer (some ⟨w.heap.size,1,none⟩))) Xao ha rfl hun,hC.step hl (Qb _ _) (by decide) (by decide) (by decide)⟩
  ·have e19:a'.tmps[19]?.getD undef= .pointer (some ⟨w.heap.size,1,none⟩):=Xba (i:=6) Xao ha rfl (by simpa using hall) (by simp)
   have hl:s.getD 10 false=false:=Xar hcl [9,8,7] (by kernel_rfl) (by rfl) hun
   have c1':=Xaa (hC.bel hl) c1
   refine wpOp_step hoj (fun K' hK=> ?_)
   rw [if_pos (by rfl)]
   unfold Oper.wp
   simp [go_sem,e19,c1',Oper.upon]
   exact hK _ _ ⟨x,Xak (d:=some 20) (v:=S e.path) Xao ha rfl hun,hC.step hl (Qb _ _) (by decide) (by decide) (by decide)⟩
  ·have e18:a'.tmps[18]?.getD undef=S (nameP e.kind):=Xba (i:=5) Xao ha rfl (by simpa using hall.1) (by simp)
   have e20:a'.tmps[20]?.getD undef=S e.path:=Xba (i:=7) Xao ha rfl (by first|simpa using hall.2|simpa using hall.2.1) (by simp)
   have hl:s.getD 10 false=false:=Xar hcl [9,8] (by kernel_rfl) (by rfl) hun
   have ha:=ha.trans (Xv6 (L:=hdL w.heap.size e N x) (M:=hdL w.heap.size e N (x.1,w'.heap.size)) 8 rfl (fun j hne=>by
    rcases j with _|_|_|_|_|_|_|_|_|j<;>first|rfl|(exact absurd rfl hne)|simp) hun)
   refine wpOp_step hoj (fun K' hK=> ?_)
   rw [if_pos (by rfl)]
   unfold Oper.wp
   simp [go_sem,e18,e20,Oper.upon]
   refine hK _ _ ⟨(x.1,w'.heap.size),Xak (d:=some 21) (v:= .slice (some ⟨w'.heap.size,0,none⟩) 2 2) Xao ha rfl hun,hC.at2 hl ((Qb _ _).alloc (Qn _) _) (by decide) (by decide) (fun p hp=> ?_)⟩
   have hst:=Xfv w' [nameP e.kind,e.path] 9
   simp at hp
   rcases hp with rfl|rfl
   ·exact hst 0 _ rfl
   ·exact hst 1 _ rfl
  ·have e21:a'.tmps[21]?.getD undef= .slice (some ⟨x.2,0,none⟩) 2 2:=Xba (i:=8) Xao ha rfl (by simpa using hall.1) (by simp)
   have hl:s.getD 10 false=false:=Xar hcl [9] (by kernel_rfl) (by rfl) hun
   have hf2:=hC.f2 (by simpa using hall.1) hl
   have hst:StrsAt w' x.2 0 [nameP e.kind,e.path]:=Xxz (hf2 (0,_) (by simp)) (hf2 (1,_) (by simp))
   refine wpOp_step hoj (fun K' hK=> ?_)
   rw [if_pos (by rfl)]
   unfold Oper.wp
   simp [go_sem,e21,Oper.upon]
   refine (Hst.out x.2 w' hst (hokW.below (Qn _) (hC.bel hl))).mono ?_
   rintro r4 w4 ⟨rfl,hb4⟩
   exact hK _ _ ⟨x,Xak (d:=some 22) (v:=S N) Xao ha rfl hun,hC.step hl hb4 (by decide) (by decide) (by decide)⟩
  ·have e22:a'.tmps[22]?.getD undef=S N:=Xba (i:=9) Xao ha rfl (by first|simpa using hall|simpa using hall.1|simpa using hall.2) (by simp)
   have e5:a'.tmps[5]?.getD undef= .pointer (some ⟨w1.heap.size,0,none⟩):=Xbt ha (by simp)
   have hl:s.getD 10 false=false:=Xco hun
   have hbx:=hC.bel hl
   refine wpOp_step hoj (fun K' hK=> ?_)
   rw [if_pos (by rfl)]
   unfold Oper.wp
   simp [go_sem,e22,e5,Oper.upon]
   refine (Tryz.Builder_WriteString w1.heap.size w1.heap.size _ _ _ (Xbg hbd1 hbx) (by rw [ByteArray.size_mk',List.size_toArray];simp [Lib.byteCells];omega) (by have:=hbx.size;omega)).mono ?_
   rintro r5 w5 ⟨rfl,hbd5,hb5⟩
   refine hK _ _ ⟨x,Xak (d:=some 23) (v:= .tuple #[.int .i64 (N.length:Int),.nilIface]) Xao ha rfl hun,QbC.end' hun ⟨.inr ?_,hbd5.lt,(hbW.trans (hbx.mono (Nat.le_of_lt hszW))).trans hb5⟩⟩
   have:=hbd5
   rw [Lib.strCells_toArray,Lib.byteCells,List.map_nil,List.nil_append] at this
   exact this
 rintro x s a' w5 hup ha hC
 obtain ⟨hbd5,hsz5,hbA⟩:=hC.fin (hup 10 (by decide))
 rw [Xbe _ _ _ _ (fun i hi=>by rw [Nat.zero_add];exact hup i (by simpa using hi))] at ha
 subst ha
 simp only [fillAll,Act.put]
 clear hC hup
 have hok1f:∀b,w1.heap.size≤b→I b=none:=fun b hb=>hok1.fresh hb
 have hok5:Ok I w5:=hok1.below (Qn _) hbA
 have Hbd5:=Qh hbd5
 have HB5:=Qh (HB1.out.thru (hbA.mono (Qn _)))
 have hb5':=hb1'.trans (hbA.mono hb1'.size)
 have hl0:=Xpj hna Hat.out
 have Hl:=Qh hl0
 have hz:numP e.attrs.length=attK e.attrs 0:=by rw [attK,List.take_zero,List.flatMap_nil,List.append_nil]
 have Hnu:=Qh (fun w hw=>Xc7 I hI e.attrs.length (by omega) w hw)
 rw [hz] at Hnu
 have hl0':=hl0 0
 clear hbd1 hbd5 hb1 hb1' hbA HB1 c0 c1 c2 c3 c4 c5 c6 hok1 hz hl0 Hst i0 i1 i2 hnl hnn hpn hbW hokW hszW hkn hW5
 obtain ⟨c0,c1,c2,c3,c4,c5,c6⟩:=HB5.out
 go_wp2_with fail
 refine (Hnu.out _ hok5).mono ?_
 rintro e6 w6 ⟨rfl,hb6⟩
 have hbd6:=Xbg Hbd5.out hb6
 have hok6:Ok I w6:=hok5.below (Qn _) hb6
 have HB6:=Qh (HB5.out.thru hb6)
 have hb6':=hb5'.trans (hb6.mono hb5'.size)
 have hsz6:=hb6.size
 clear hb6 hb5' hok5 HB5 c0 c1 c2 c3 c4 c5 c6 Hbd5
 go_wp2_with fail
 refine (Tryz.Builder_WriteString w1.heap.size w1.heap.size _ _ _ hbd6 (by rw [ByteArray.size_mk',List.size_toArray];simp [Lib.byteCells];omega) (by omega)).mono ?_
 rintro e7 w7 ⟨rfl,hbd7,hb7⟩
 have Hbd7:=Qh (show Lib.IsBuilder 77 5 w1.heap.size w1.heap.size (Lib.byteCells (N++attK e.attrs 0)) w7 from .inr (by
  have:=hbd7
  rw [Lib.strCells_toArray,Lib.byteCells,Lib.byteCells,←List.map_append] at this
  exact this))
 have hsz7:=hbd7.lt
 have hbB:Below w1.heap.size w6 w7:=hb7
 have hok7:Ok I w7:=hok6.of_block fun b c hb=>hbB.block b (Nat.lt_of_not_le fun h=>by rw [hok1f b h] at hb;cases hb)
 have HB7:=Qh (HB6.out.far hbB hsz1)
 have hb7':=hb6'.trans (hbB.mono (Nat.le_of_lt hsz1))
 clear hbd6 hbd7 hb7 hbB hb6' hok6 HB6 Hnu
 obtain ⟨c0,c1,c2,c3,c4,c5,c6⟩:=HB7.out
 have Hv:=Qh hva
 clear hva hvx
 go_wp2_with fail
 clear c0 c1 c2 c3 c4 c5 c6
 go_loopw [32] (fun s32 wr=> ∃k:Nat,k≤e.attrs.length∧s32= .int .i64 k∧Lib.IsBuilder 77 5 w1.heap.size w1.heap.size (Lib.byteCells (N++attK e.attrs k)) wr∧Ok I wr∧EntB wr w.heap.size e (.slice aa e.attrs.length ca) (.slice ax e.exts.length cx)∧Below w.heap.size w wr∧w1.heap.size<wr.heap.size) (fun i _=>e.attrs.length-(intOf i).toNat)
 case atStart=>exact ⟨0,Nat.zero_le _,rfl,Hbd7.out,hok7,HB7.out,hb7',hsz7⟩
 case round=>
  clear Hbd7 HB7 hb7' hok7 hsz7 hsz6 hsz5
  obtain ⟨k,hk,rfl,hbd,hwr,hBe,hb,hsz⟩:=hrel
  have Hbd:=Qh hbd
  have HBe:=Qh hBe
  clear hbd hBe
  have hal:=Hl.out k
  by_cases hlt:k<e.attrs.length
  ·obtain ⟨x,b,off,cap',hlx,hvv,c0,c1⟩:=atAt Hv.out hwr k hlt
   cases hvv
   have hax:=Hat.out x (by rw [←hlx];exact List.getElem_mem hlt)
   have Hst:=Qh (Xme hlt hlx)
   have hk1:=Xal x.k (by omega)
   have hk2:=Xal x.v (by omega)
   have hns:netsP [x.k,x.v]=netP x.k++netP x.v:=by simp [netsP]
   have Hs:=Qh (fun w hv hw=>Xeu I hI (wr.heap.size+1) 0 2 2 [x.k,x.v] rfl (by simp) (by unfold maxLen;omega) w hv (by rw [hns];simp;omega) hw)
   have HS:=Qh (show StrsAt ((wr.alloc (.cells #[S x.k,S x.v] 94)).alloc (.cells #[S x.k,S x.v] 9)) (wr.heap.size+1) 0 [x.k,x.v] by
    have:=Xfv (wr.alloc (.cells #[S x.k,S x.v] 94)) [x.k,x.v] 9
    rwa [show (wr.alloc (.cells #[S x.k,S x.v] 94)).heap.size=wr.heap.size+1 by simp] at this)
   rw [hns] at Hs
   clear hlx hns
   generalize netP x.k=p at Hst hk1 Hs
   generalize netP x.v=q at Hst hk2 Hs
   generalize attK e.attrs k=u at Hst hal Hbd
   go_wp2_with fail
   refine (Hs.out _ HS.out ((hwr.alloc _).alloc _)).mono ?_
   rintro e1 w2 ⟨rfl,hb1⟩
   have hbA:Below wr.heap.size wr w2:=(((Qb _ _).alloc (Qn _) _).alloc (by simp) _).trans (hb1.mono (by simp;omega))
   have hbd1:=Xbg Hbd.out hbA
   have hok1:Ok I w2:=hwr.below (Qn _) hbA
   have HB1:=Qh (HBe.out.thru hbA)
   have hsz2:=hbA.size
   have hb1':=hb.trans (hbA.mono hb.size)
   clear hb1 hbA Hbd c0 c1 HS Hs
   go_wp2_with fail
   refine (Tryz.Builder_WriteString w1.heap.size w1.heap.size _ _ _ hbd1 (by rw [ByteArray.size_mk',List.size_toArray];simp [Lib.byteCells];omega) (by omega)).mono ?_
   rintro e2 w3 ⟨rfl,hbd2,hb2⟩
   have hsz3:=hbd2.lt
   have Hbd2:=Qh (show Lib.IsBuilder 77 5 w1.heap.size w1.heap.size (Lib.byteCells (N++attK e.attrs (k+1))) w3 from .inr (by
    have:=hbd2
    rw [Lib.strCells_toArray,Lib.byteCells,Lib.byteCells,←List.map_append,List.append_assoc,←Hst.out] at this
    exact this))
   have hbB:Below w1.heap.size w2 w3:=hb2
   have hok3:Ok I w3:=hok1.of_block fun b c hb=>hbB.block b (Nat.lt_of_not_le fun h=>by rw [hok1f b h] at hb;cases hb)
   have HB3:=Qh (HB1.out.far hbB hsz1)
   clear hbd1 hbd2 hok1 HB1 hb2
   go_wp2
   go_roundw
   case rel=>exact ⟨k+1,by omega,by go_num,Hbd2.out,hok3,HB3.out,hb1'.trans (hbB.mono (Nat.le_of_lt hsz1)),hsz3⟩
   case measure=>simp [intOf];omega
  ·have Hn:=Qh (Xpk e.attrs (k:=k) (by omega))
   rw [Hn.out] at Hbd hal
   have htn:=Xal e.target (by omega)
   have Hnt:=Qh (fun w hw=>Xc6 I hI e.target (by omega) w hw)
   have Hh:=Qh (show N++attP e.attrs++netP e.target=headE e by rw [←HN.out];rfl)
   generalize netP e.target=q at htn Hnt Hh
   generalize attP e.attrs=u at Hbd hal Hh
   obtain ⟨c0,c1,c2,c3,c4,c5,c6⟩:=HBe.out
   go_wp2_with fail
   refine (Hnt.out _ hwr).mono ?_
   rintro e1 w2 ⟨rfl,hb1⟩
   have hbd1:=Xbg Hbd.out hb1
   have hsz2:=hb1.size
   have hb1':=hb.trans (hb1.mono hb.size)
   clear hb1 Hbd c0 c1 c2 c3 c4 c5 c6 HBe
   go_wp2_with fail
   refine (Tryz.Builder_WriteString w1.heap.size w1.heap.size _ _ _ hbd1 (by rw [ByteArray.size_mk',List.size_toArray];simp [Lib.byteCells];omega) (by omega)).mono ?_
   rintro e2 w3 ⟨rfl,hbd2,hb2⟩
   have hsz3:=hbd2.lt
   have Hbd2:=Qh (show Lib.IsBuilder 77 5 w1.heap.size w1.heap.size (Lib.byteCells (headE e)) w3 from .inr (by
    have:=hbd2
    rw [Lib.strCells_toArray,Lib.byteCells,Lib.byteCells,←List.map_append,Hh.out] at this
    exact this))
   have hb2':=hb1'.trans (hb2.mono (Nat.le_of_lt hsz1))
   clear hbd1 hbd2 hb2
   go_wp2_with fail
   refine (Tryz.Builder_String_any w1.heap.size w1.heap.size _ _ Hbd2.out (Nat.le_of_lt hsz3)).mono ?_
   rintro e3 w4 ⟨rfl,hb4⟩
   go_wp2
   go_ret2
   exact ⟨rfl,hb2'.trans (hb4.mono (Nat.le_of_lt hsz1))⟩
end Go.Proofs.YtdodihnehppnmaaGreatDoor
