/-
  Walks and laws that the claim's theorem uses: texts DgB EeP EeA EeB SeA Mat MkP, joined; comments out. Conditions: as each theorem says.
-/
import Derived.Test.YtdeknddamidldaaGreatDoorQ18
import Derived.Test.YtdeknddamidldaaGreatDoorQ24
import Derived.Test.YtdeknddamidldaaGreatDoorQ14
namespace Go.Proofs.YtdeknddamidldaaGreatDoor
open Go.RowKit
def attK (l:List At) (k:Nat):Bytes:=numP l.length++(l.take k).flatMap fun a=>netP a.k++netP a.v
theorem Xmj {l:List At} {k:Nat} (hk:k<l.length) {x:At} (hx:l[k]=x):attK l (k+1)=attK l k++(netP x.k++netP x.v):=by
 rw [attK,attK,List.take_succ_eq_append_getElem hk,hx,List.flatMap_append,←List.append_assoc]
 simp
theorem Xot (l:List At) {k:Nat} (h:l.length≤k):attK l k=attP l:=by rw [attK,attP,List.take_of_length_le h]
theorem Xos {l:List At} (hn:l.length≤16) (h:∀a∈l,a.k.length≤32∧a.v.length≤64) (k:Nat):(attK l k).length≤2300:=by
 have h1:=Xkg (l.take k) fun a ha=>h a (List.mem_of_mem_take ha)
 have h2:=Xbm l.length (by omega)
 have h3:(l.take k).length≤l.length:=by simp;omega
 unfold attK
 rw [List.length_append]
 omega
end Go.Proofs.YtdeknddamidldaaGreatDoor
namespace Go.Proofs.YtdeknddamidldaaGreatDoor
structure EncOk (x:Ent):Prop where
 k1:1≤x.kind
 k6:x.kind≤6
 natt:x.attrs.length≤16
 att:∀a∈x.attrs,a.k.length≤32∧a.v.length≤64
 target:x.target.length≤200
 s0:0≤x.size
 s1:x.size≤65536
 digest:x.digest.length≤32
 path:x.path.length≤200
 xts:∀y∈x.exts,0≤y.s∧y.s≤255∧0≤y.o∧y.o≤2147483647∧1≤y.n∧y.n≤65536
theorem Xgv {f:Bool}:∀ {l:List Xt},xtsErr f l=0→ ∀y∈l,xtBad y=false
 | [],_,y,hy=>by cases hy
 |x::l,h,y,hy=>by
  unfold xtsErr at h
  split at h
  ·omega
  split at h
  ·omega
  rename_i k
  rcases List.mem_cons.1 hy with rfl|hy
  ·simpa using k
  ·exact Xgv h y hy
theorem Xso {x:Xt} (h:xtBad x=false):0≤x.s∧x.s≤255∧0≤x.o∧x.o≤2147483647∧1≤x.n∧x.n≤65536:=by
 unfold xtBad at h
 simp only [Bool.or_eq_false_iff,decide_eq_false_iff_not] at h
 omega
theorem Xd5 {x:Ent} (h:entErr x=0):EncOk x:=by
 have hk:=Xba h
 have hpp:=(Xa6 hk.2.2.1).1
 unfold entErr at h
 rw [if_neg (by omega)] at h
 by_cases h1:pathErr x.path≠0
 ·rw [if_pos h1] at h;exact absurd h h1
 rw [if_neg h1] at h
 split at h
 ·omega
 by_cases h2:chk x.attrs≠0
 ·rw [if_pos h2] at h;exact absurd h h2
 rw [if_neg h2] at h
 split at h
 ·omega
 rename_i h3
 split at h
 ·omega
 rename_i h4
 split at h
 ·omega
 rename_i h5
 by_cases h6:xtsErr (x.kind==1) x.exts≠0
 ·rw [if_pos h6] at h;exact absurd h h6
 have hc:=Xu9 (l:=x.attrs) (by omega)
 refine ⟨by omega,by omega,hc.1,hc.2,?_,by omega,by omega,?_,by omega,fun y hy=>Xso (Xgv (f:=x.kind==1) (Classical.byContradiction h6) y hy)⟩
 ·have ht:targetOk x=true:=by
   cases hh:targetOk x with
   |true=>rfl
   |false=>exact absurd (.inr hh) h3
  unfold targetOk at ht
  split at ht
  ·simp at ht;omega
  ·split at ht
   ·have:=Xfz ht;omega
   ·have:x.target= []:=by simpa using ht
    rw [this];simp
 ·by_cases hk1:x.kind=1
  ·have:¬(x.kind=1∧x.digest.length≠32):=fun q=>h5 (.inl q)
   omega
  ·have:¬(x.kind≠1∧x.digest≠ []):=fun q=>h5 (.inr q)
   have hd:x.digest= []:=Classical.byContradiction fun q=>this ⟨hk1,q⟩
   rw [hd];simp
theorem Xbd {n:Int} (h0:0≤n) (h1:n≤140737488355200):(numP n).length≤17:=by
 obtain ⟨m,rfl⟩:=Int.eq_ofNat_of_zero_le h0
 exact Xbm m (by omega)
theorem Xhw {x:Ent} (h:EncOk x):(headE x).length≤2700:=by
 have h1:=Xt6 h.natt h.att
 have h2:=Xe8 x.kind
 have h3:=Xal (nameP x.kind) (by omega)
 have h4:=Xal x.path (by have:=h.path;omega)
 have h5:=Xal x.target (by have:=h.target;omega)
 have h6:=h.path
 have h7:=h.target
 unfold headE
 simp only [List.length_append]
 omega
def encF (e:Ent):Bytes:=netP (headE e)++numP e.size++netP e.digest++numP e.exts.length
def encK (e:Ent) (k:Nat):Bytes:=encF e++xtP (e.exts.take k)
theorem Xlz {e:Ent} {k:Nat} (hk:k<e.exts.length) {x:Xt} (hx:e.exts[k]=x):encK e (k+1)=encK e k++(numP x.s++numP x.o++numP x.n):=by
 rw [encK,encK,List.take_succ_eq_append_getElem hk,hx,xtP,List.flatMap_append,←List.append_assoc]
 simp [xtP]
theorem Xj7 (e:Ent) {k:Nat} (h:e.exts.length≤k):encK e k=encE e:=by rw [encK,List.take_of_length_le h];rfl
theorem Xly (e:Ent):encK e 0=encF e:=by rw [encK,List.take_zero];simp [xtP]
theorem Xtw {x:Ent} (h:EncOk x) (hx:x.exts.length≤1000):(encF x).length≤2900:=by
 have h1:=Xhw h
 have h2:=Xal (headE x) (by omega)
 have h3:=Xbd h.s0 (by have:=h.s1;omega)
 have h4:=Xal x.digest (by have:=h.digest;omega)
 have h5:=Xbm x.exts.length (by omega)
 have h6:=h.digest
 unfold encF
 simp only [List.length_append]
 omega
theorem Xp7:∀ {l:List Xt},(∀y∈l,0≤y.s∧y.s≤255∧0≤y.o∧y.o≤2147483647∧1≤y.n∧y.n≤65536)→(xtP l).length≤51*l.length
 | [],_=>by simp [xtP]
 |y::l,h=>by
  have h1:=h y (List.mem_cons_self ..)
  have h2:=Xp7 fun z hz=>h z (List.mem_cons_of_mem _ hz)
  have h3:=Xbd (n:=y.s) (by omega) (by omega)
  have h4:=Xbd (n:=y.o) (by omega) (by omega)
  have h5:=Xbd (n:=y.n) (by omega) (by omega)
  unfold xtP at*
  simp only [List.flatMap_cons,List.length_append,List.length_cons]
  omega
theorem Xj6 {x:Ent} (h:EncOk x) (hx:x.exts.length≤1000) (k:Nat):(encK x k).length≤54000:=by
 have h1:=Xtw h hx
 have h2:=Xp7 (l:=x.exts.take k) fun y hy=>h.xts y (List.mem_of_mem_take hy)
 have h3:(x.exts.take k).length≤x.exts.length:=by simp;omega
 unfold encK
 rw [List.length_append]
 omega
theorem Xj8 {x:Ent} (h:EncOk x) (hx:x.exts.length≤1000):(encE x).length≤54000:=by
 rw [←Xj7 x (Qn _)]
 exact Xj6 h hx _
end Go.Proofs.YtdeknddamidldaaGreatDoor
namespace Go.Proofs.YtdeknddamidldaaGreatDoor
open Go.RowKit
theorem Xfo (n:Int) (h0:0≤n) (h1:n≤140737488355200) (w:World):
 Calls Tryz.prog 115 #[.int .i64 n] w fun e w'=>e= .returned (S (numP n))∧Below w.heap.size w w':=by
 obtain ⟨m,rfl⟩:=Int.eq_ofNat_of_zero_le h0
 exact Xb0 m (by omega) w
theorem Xfp (I:IH) (hI:Glob I) (n:Int) (h0:0≤n) (h1:n≤140737488355200) (w:World) (hw:Ok I w):
 Calls Tryz.prog 74 #[.int .i64 n] w fun e w'=>e= .returned (S (numP n))∧Below w.heap.size w w':=by
 obtain ⟨m,rfl⟩:=Int.eq_ofNat_of_zero_le h0
 exact Xcu I hI m (by omega) w hw
theorem Xv7 {W:World} {b:Nat} {p q:Bytes} (h0:W.cell? ⟨b,0,none⟩=some (S p)) (h1:W.cell? ⟨b,1,none⟩=some (S q)):StrsAt W b 0 [p,q]:=fun j x hx=>by
 match j with
 |0=>cases hx;exact h0
 |1=>cases hx;exact h1
 |_+2=>simp at hx
theorem Xke {T e:TypeId} {B b:Nat} {bs:List Value} {w:World} (h:Lib.IsBuilder T e B b bs w) (o:Obj):Lib.IsBuilder T e B b bs (w.alloc o):=Xap h ((Qb _ _).alloc (Qn _) _)
set_option maxRecDepth 100000 in
theorem Xtx (k:Int) (h1:1≤k) (h2:k≤6) (w:World):
 Calls Tryz.prog 171 #[] w fun e w'=>e= .returned (.slice (some ⟨w.heap.size,0,none⟩) 6 6)∧w'.cell? ⟨w.heap.size,k.toNat-1,none⟩=some (S (nameP k))∧Below w.heap.size w w'∧w.heap.size<w'.heap.size:=by
 go_enter Tryz.func171,Tryz.ntmps171
 go_wp2
 go_ret
 refine ⟨rfl,?_,(Qb _ _).alloc (Qn _) _,by simp⟩
 have:k=1∨k=2∨k=3∨k=4∨k=5∨k=6:=by omega
 rcases this with rfl|rfl|rfl|rfl|rfl|rfl<;>simp [nameP]
theorem EntB.far {w w':World} {n B:Nat} {e:Ent} {va vx:Value} (h:EntB w n e va vx) (hb:Below B w w') (hn:n<B):EntB w' n e va vx:=
 ⟨(hb.cell hn).trans h.c0,(hb.cell hn).trans h.c1,(hb.cell hn).trans h.c2,(hb.cell hn).trans h.c3,(hb.cell hn).trans h.c4,(hb.cell hn).trans h.c5,(hb.cell hn).trans h.c6⟩
abbrev hdL (n:Nat) (e:Ent) (N:Bytes) (x:Nat × Nat):List (Option Tmp × Value):=
 [(some 13,.slice (some ⟨x.1,0,none⟩) 6 6),(some 14,.pointer (some ⟨n,0,none⟩)),(some 15,.int .i64 e.kind),(some 16,.int .i64 (e.kind-1)),(some 17,.pointer (some ⟨x.1,e.kind.toNat-1,none⟩)),(some 18,S (nameP e.kind)),
  (some 19,.pointer (some ⟨n,1,none⟩)),(some 20,S e.path),(some 21,.slice (some ⟨x.2,0,none⟩) 2 2),(some 22,S N),(some 23,.tuple #[.int .i64 (N.length:Int),.nilIface])]
theorem Xao {n:Nat} {e:Ent} {N:Bytes} {x:Nat × Nat}:ApartF (hdL n e N x):=by
 unfold ApartF
 simp
set_option maxRecDepth 100000 in
set_option maxHeartbeats 4000000 in
theorem Xu0 (I:IH) (hI:Glob I) (e:Ent) (va vx:Value) (hva:RdS tAt I va e.attrs) (hvx:RdS tXt I vx e.exts) (hwf:e.Wf) (hpl:e.path.length≤4294967280) (htl:e.target.length≤4294967280) (hc:EncOk e) (he:entErr e=0) (w:World) (hw:Ok I w):
 Calls Tryz.prog 131 #[entV e va vx] w fun r w'=>r= .returned (.tuple #[S (headE e),.int .i64 0])∧Below w.heap.size w w':=by
 have Hck:=Qh (fun w hw=>Xj9 I hI e va vx hva hvx hwf hpl htl w hw)
 obtain ⟨aa,ca,rfl,_,_,_⟩:=id hva
 obtain ⟨ax,cx,rfl,_,_,_⟩:=id hvx
 have k1:=hc.k1
 have k6:=hc.k6
 have hp200:=hc.path
 have ht200:=hc.target
 have hna:=hc.natt
 have Hat:=Qh hc.att
 have Hc:=Qh hc
 rw [he] at Hck
 have i0:IntKind.i64.wrap (e.kind-1)=e.kind-1:=IntWalk.i64_in _ (by omega)
 have i1:0≤e.kind-1:=by omega
 have i2:e.kind-1<6:=by omega
 clear he hc
 go_enter Tryz.func131,Tryz.ntmps131
 go_wp2_with fail
 refine (Hck.out _ (hw.alloc _)).mono ?_
 rintro e1 w1 ⟨rfl,hb1⟩
 have HB1:=Qh (entB (e:=e) rfl hb1)
 have hok1:Ok I w1:=(hw.alloc _).below (Qn _) hb1
 have hb1':=((Qb w.heap.size w).alloc (Qn _) (.cells #[.int .i64 e.kind,S e.path,.slice aa e.attrs.length ca,S e.target,.int .i64 e.size,S e.digest,.slice ax e.exts.length cx] 39)).trans (hb1.mono (by simp))
 have hbd1:Lib.IsBuilder 119 5 w1.heap.size w1.heap.size (Lib.byteCells []) (w1.alloc (.cells #[.pointer none,.slice none 0 0] 119)):=Lib.fresh_isBuilder _ _ w1
 have hsz1:w.heap.size<w1.heap.size:=by have:=hb1.size;simp at this;omega
 go_wp2_with fail
 obtain ⟨c0,c1,c2,c3,c4,c5,c6⟩:=EntB.past HB1.out (.cells #[.pointer none,.slice none 0 0] 119)
 have hnl:=Xal (nameP e.kind) (by have:=Xe8 e.kind;omega)
 have hnn:=Xe8 e.kind
 have hpn:=Xal e.path (by omega)
 have hns:netsP [nameP e.kind,e.path]=netP (nameP e.kind)++netP e.path:=by simp [netsP]
 have hsl:(netsP [nameP e.kind,e.path]).length≤300:=by rw [hns,List.length_append];omega
 have Hst:=Qh (fun b w hv hw=>Xhm I hI b 0 2 2 [nameP e.kind,e.path] rfl (Qn _) (by decide) w hv (by omega) hw)
 obtain ⟨N,hN⟩:∃N,netsP [nameP e.kind,e.path]=N:=⟨_,rfl⟩
 rw [hN] at Hst hsl
 rw [hns] at hN
 have HN:=Qh hN
 clear hns hN
 obtain ⟨W5,hW5⟩:∃W5,w1.alloc (.cells #[.pointer none,.slice none 0 0] 119)=W5:=⟨_,rfl⟩
 have hbW:Below w1.heap.size w1 W5:=by rw [←hW5];exact (Qb _ _).alloc (Qn _) _
 have hokW:Ok I W5:=by rw [←hW5];exact hok1.alloc _
 have hszW:w1.heap.size<W5.heap.size:=by rw [←hW5];simp
 change Code.wp _ _ _ _ (w1.alloc (.cells #[.pointer none,.slice none 0 0] 119))
 rw [hW5]
 rw [hW5] at hbd1 c0 c1
 have hkn:(e.kind-1).toNat=e.kind.toNat-1:=by omega
 refine Xcc (X:=Nat × Nat) (hdL w.heap.size e N) (QbC W5 10 0 8 [(e.kind.toNat-1,S (nameP e.kind))] [(0,S (nameP e.kind)),(1,S e.path)] (fun w5=>Lib.IsBuilder 119 5 w1.heap.size w1.heap.size (Lib.byteCells N) w5∧w1.heap.size<w5.heap.size∧Below w1.heap.size w1 w5)) (by kernel_rfl) (by kernel_rfl) ?_ ?_ ?_
 ·exact ⟨(0,0),QbC.start _ _⟩
 ·rintro x s a' w' i hsz hcl ha hC hi
  obtain ⟨hun,oi,hoi,hall⟩:=mem_ready.1 hi
  rcases i with _|_|_|_|_|_|_|_|_|_|_|i
  rotate_left 11
  ·simp at hoi
  all_goals
   have hoj:=hoi
   simp at hoi
   subst hoi
   simp [Region.binds] at hall
  ·have hl:s.getD 10 false=false:=Xai hcl [9,8,5,4,0] (by kernel_rfl) (by rfl) hun
   have h4:s.getD 4 false=false:=Xai hcl [0] (by kernel_rfl) (by rfl) hun
   have ha:=ha.trans (Xtu (L:=hdL w.heap.size e N x) (M:=hdL w.heap.size e N (w'.heap.size,x.2)) 0 4 rfl (fun j h0 h4=>by
    rcases j with _|_|_|_|_|j<;>first|rfl|(exact absurd rfl h0)|(exact absurd rfl h4)|simp) hun h4)
   refine wpOp_step hoj (fun K' hK=> ?_)
   rw [if_pos (by rfl)]
   unfold Oper.wp
   simp [go_sem,Oper.upon]
   refine (Xtx e.kind k1 k6 w').mono ?_
   rintro r2 w2 ⟨rfl,hc2,hb2,hsz2⟩
   exact hK _ _ ⟨(w'.heap.size,x.2),Xaf (d:=some 13) (v:= .slice (some ⟨w'.heap.size,0,none⟩) 6 6) Xao ha rfl hun,hC.at1 hl hb2 (by decide) (by decide) (fun p hp=>by simp at hp;subst hp;exact hc2)⟩
  ·have e1:a'.tmps[1]?.getD undef= .pointer (some ⟨w.heap.size,0,none⟩):=Xbv ha (by simp)
   have hl:s.getD 10 false=false:=Xai hcl [9,8,5,4,3,2,1] (by kernel_rfl) (by rfl) hun
   refine wpOp_step hoj (fun K' hK=> ?_)
   rw [if_pos (by rfl)]
   unfold Oper.wp
   simp [go_sem,e1,Oper.upon]
   exact hK _ _ ⟨x,Xaf (d:=some 14) (v:=(.pointer (some ⟨w.heap.size,0,none⟩))) Xao ha rfl hun,hC.step hl (Qb _ _) (by decide) (by decide) (by decide)⟩
  ·have e14:a'.tmps[14]?.getD undef= .pointer (some ⟨w.heap.size,0,none⟩):=Xaq (i:=1) Xao ha rfl (by simpa using hall) (by simp)
   have hl:s.getD 10 false=false:=Xai hcl [9,8,5,4,3,2] (by kernel_rfl) (by rfl) hun
   have c0':=Xaa (hC.bel hl) c0
   refine wpOp_step hoj (fun K' hK=> ?_)
   rw [if_pos (by rfl)]
   unfold Oper.wp
   simp [go_sem,e14,c0',Oper.upon]
   exact hK _ _ ⟨x,Xaf (d:=some 15) (v:= .int .i64 e.kind) Xao ha rfl hun,hC.step hl (Qb _ _) (by decide) (by decide) (by decide)⟩
  ·have e15:a'.tmps[15]?.getD undef= .int .i64 e.kind:=Xaq (i:=2) Xao ha rfl (by simpa using hall) (by simp)
   have hl:s.getD 10 false=false:=Xai hcl [9,8,5,4,3] (by kernel_rfl) (by rfl) hun
   refine wpOp_step hoj (fun K' hK=> ?_)
   rw [if_pos (by rfl)]
   unfold Oper.wp
   simp [go_sem,e15,Oper.upon,i0]
   exact hK _ _ ⟨x,Xaf (d:=some 16) (v:= .int .i64 (e.kind-1)) Xao ha rfl hun,hC.step hl (Qb _ _) (by decide) (by decide) (by decide)⟩
  ·have e13:a'.tmps[13]?.getD undef= .slice (some ⟨x.1,0,none⟩) 6 6:=Xaq (i:=0) Xao ha rfl (by simpa using hall.1) (by simp)
   have e16:a'.tmps[16]?.getD undef= .int .i64 (e.kind-1):=Xaq (i:=3) Xao ha rfl (by simpa using hall.2) (by simp)
   have hl:s.getD 10 false=false:=Xai hcl [9,8,5,4] (by kernel_rfl) (by rfl) hun
   refine wpOp_step hoj (fun K' hK=> ?_)
   rw [if_pos (by rfl)]
   unfold Oper.wp
   simp [go_sem,e13,e16,i2,hkn,k1,Oper.upon]
   exact hK _ _ ⟨x,Xaf (d:=some 17) (v:= .pointer (some ⟨x.1,e.kind.toNat-1,none⟩)) Xao ha rfl hun,hC.step hl (Qb _ _) (by decide) (by decide) (by decide)⟩
  ·have e17:a'.tmps[17]?.getD undef= .pointer (some ⟨x.1,e.kind.toNat-1,none⟩):=Xaq (i:=4) Xao ha rfl (by simpa using hall) (by simp)
   have hl:s.getD 10 false=false:=Xai hcl [9,8,5] (by kernel_rfl) (by rfl) hun
   have h0:s.getD 0 false=true:=Xkd hcl [0] 4 0 (by kernel_rfl) (by rfl) (by simpa using hall)
   have hc:=hC.f1 h0 hl _ (List.mem_singleton.2 rfl)
   refine wpOp_step hoj (fun K' hK=> ?_)
   rw [if_pos (by rfl)]
   unfold Oper.wp
   simp [go_sem,e17,hc,Oper.upon]
   exact hK _ _ ⟨x,Xaf (d:=some 18) (v:=S (nameP e.kind)) Xao ha rfl hun,hC.step hl (Qb _ _) (by decide) (by decide) (by decide)⟩
  ·have e1:a'.tmps[1]?.getD undef= .pointer (some ⟨w.heap.size,0,none⟩):=Xbv ha (by simp)
   have hl:s.getD 10 false=false:=Xai hcl [9,8,7,6] (by kernel_rfl) (by rfl) hun
   refine wpOp_step hoj (fun K' hK=> ?_)
   rw [if_pos (by rfl)]
   unfold Oper.wp
   simp [go_sem,e1,Oper.upon]
   exact hK _ _ ⟨x,Xaf (d:=some 19) (v:=(.pointer (some ⟨w.heap.size,1,none⟩))) Xao ha rfl hun,hC.step hl (Qb _ _) (by decide) (by decide) (by decide)⟩
  ·have e19:a'.tmps[19]?.getD undef= .pointer (some ⟨w.heap.size,1,none⟩):=Xaq (i:=6) Xao ha rfl (by simpa using hall) (by simp)
   have hl:s.getD 10 false=false:=Xai hcl [9,8,7] (by kernel_rfl) (by rfl) hun
   have c1':=Xaa (hC.bel hl) c1
   refine wpOp_step hoj (fun K' hK=> ?_)
   rw [if_pos (by rfl)]
   unfold Oper.wp
   simp [go_sem,e19,c1',Oper.upon]
   exact hK _ _ ⟨x,Xaf (d:=some 20) (v:=S e.path) Xao ha rfl hun,hC.step hl (Qb _ _) (by decide) (by decide) (by decide)⟩
  ·have e18:a'.tmps[18]?.getD undef=S (nameP e.kind):=Xaq (i:=5) Xao ha rfl (by simpa using hall.1) (by simp)
   have e20:a'.tmps[20]?.getD undef=S e.path:=Xaq (i:=7) Xao ha rfl (by first|simpa using hall.2|simpa using hall.2.1) (by simp)
   have hl:s.getD 10 false=false:=Xai hcl [9,8] (by kernel_rfl) (by rfl) hun
   have ha:=ha.trans (Xh1 (L:=hdL w.heap.size e N x) (M:=hdL w.heap.size e N (x.1,w'.heap.size)) 8 rfl (fun j hne=>by
    rcases j with _|_|_|_|_|_|_|_|_|j<;>first|rfl|(exact absurd rfl hne)|simp) hun)
   refine wpOp_step hoj (fun K' hK=> ?_)
   rw [if_pos (by rfl)]
   unfold Oper.wp
   simp [go_sem,e18,e20,Oper.upon]
   refine hK _ _ ⟨(x.1,w'.heap.size),Xaf (d:=some 21) (v:= .slice (some ⟨w'.heap.size,0,none⟩) 2 2) Xao ha rfl hun,hC.at2 hl ((Qb _ _).alloc (Qn _) _) (by decide) (by decide) (fun p hp=> ?_)⟩
   have hst:=Xip w' [nameP e.kind,e.path] 9
   simp at hp
   rcases hp with rfl|rfl
   ·exact hst 0 _ rfl
   ·exact hst 1 _ rfl
  ·have e21:a'.tmps[21]?.getD undef= .slice (some ⟨x.2,0,none⟩) 2 2:=Xaq (i:=8) Xao ha rfl (by simpa using hall.1) (by simp)
   have hl:s.getD 10 false=false:=Xai hcl [9] (by kernel_rfl) (by rfl) hun
   have hf2:=hC.f2 (by simpa using hall.1) hl
   have hst:StrsAt w' x.2 0 [nameP e.kind,e.path]:=Xv7 (hf2 (0,_) (by simp)) (hf2 (1,_) (by simp))
   refine wpOp_step hoj (fun K' hK=> ?_)
   rw [if_pos (by rfl)]
   unfold Oper.wp
   simp [go_sem,e21,Oper.upon]
   refine (Hst.out x.2 w' hst (hokW.below (Qn _) (hC.bel hl))).mono ?_
   rintro r4 w4 ⟨rfl,hb4⟩
   exact hK _ _ ⟨x,Xaf (d:=some 22) (v:=S N) Xao ha rfl hun,hC.step hl hb4 (by decide) (by decide) (by decide)⟩
  ·have e22:a'.tmps[22]?.getD undef=S N:=Xaq (i:=9) Xao ha rfl (by first|simpa using hall|simpa using hall.1|simpa using hall.2) (by simp)
   have e5:a'.tmps[5]?.getD undef= .pointer (some ⟨w1.heap.size,0,none⟩):=Xbv ha (by simp)
   have hl:s.getD 10 false=false:=Xas hun
   have hbx:=hC.bel hl
   refine wpOp_step hoj (fun K' hK=> ?_)
   rw [if_pos (by rfl)]
   unfold Oper.wp
   simp [go_sem,e22,e5,Oper.upon]
   refine (Tryz.Builder_WriteString w1.heap.size w1.heap.size _ _ _ (Xap hbd1 hbx) (by rw [ByteArray.size_mk',List.size_toArray];simp [Lib.byteCells];omega) (by have:=hbx.size;omega)).mono ?_
   rintro r5 w5 ⟨rfl,hbd5,hb5⟩
   refine hK _ _ ⟨x,Xaf (d:=some 23) (v:= .tuple #[.int .i64 (N.length:Int),.nilIface]) Xao ha rfl hun,QbC.end' hun ⟨.inr ?_,hbd5.lt,(hbW.trans (hbx.mono (Nat.le_of_lt hszW))).trans hb5⟩⟩
   have:=hbd5
   rw [Lib.strCells_toArray,Lib.byteCells,List.map_nil,List.nil_append] at this
   exact this
 rintro x s a' w5 hup ha hC
 obtain ⟨hbd5,hsz5,hbA⟩:=hC.fin (hup 10 (by decide))
 rw [Xb8 _ _ _ _ (fun i hi=>by rw [Nat.zero_add];exact hup i (by simpa using hi))] at ha
 subst ha
 simp only [fillAll,Act.put]
 clear hC hup
 have hok1f:∀b,w1.heap.size≤b→I b=none:=fun b hb=>hok1.fresh hb
 have hok5:Ok I w5:=hok1.below (Qn _) hbA
 have Hbd5:=Qh hbd5
 have HB5:=Qh (HB1.out.thru (hbA.mono (Qn _)))
 have hb5':=hb1'.trans (hbA.mono hb1'.size)
 have hl0:=Xos hna Hat.out
 have Hl:=Qh hl0
 have hz:numP e.attrs.length=attK e.attrs 0:=by rw [attK,List.take_zero,List.flatMap_nil,List.append_nil]
 have Hnu:=Qh (fun w hw=>Xcu I hI e.attrs.length (by omega) w hw)
 rw [hz] at Hnu
 have hl0':=hl0 0
 clear hbd1 hbd5 hb1 hb1' hbA HB1 c0 c1 c2 c3 c4 c5 c6 hok1 hz hl0 Hst i0 i1 i2 hnl hnn hpn hbW hokW hszW hkn hW5
 obtain ⟨c0,c1,c2,c3,c4,c5,c6⟩:=HB5.out
 go_wp2_with fail
 refine (Hnu.out _ hok5).mono ?_
 rintro e6 w6 ⟨rfl,hb6⟩
 have hbd6:=Xap Hbd5.out hb6
 have hok6:Ok I w6:=hok5.below (Qn _) hb6
 have HB6:=Qh (HB5.out.thru hb6)
 have hb6':=hb5'.trans (hb6.mono hb5'.size)
 have hsz6:=hb6.size
 clear hb6 hb5' hok5 HB5 c0 c1 c2 c3 c4 c5 c6 Hbd5
 go_wp2_with fail
 refine (Tryz.Builder_WriteString w1.heap.size w1.heap.size _ _ _ hbd6 (by rw [ByteArray.size_mk',List.size_toArray];simp [Lib.byteCells];omega) (by omega)).mono ?_
 rintro e7 w7 ⟨rfl,hbd7,hb7⟩
 have Hbd7:=Qh (show Lib.IsBuilder 119 5 w1.heap.size w1.heap.size (Lib.byteCells (N++attK e.attrs 0)) w7 from .inr (by
  have:=hbd7
  rw [Lib.strCells_toArray,Lib.byteCells,Lib.byteCells,←List.map_append] at this
  exact this))
 have hsz7:=hbd7.lt
 have hbB:Below w1.heap.size w6 w7:=hb7
 have hok7:Ok I w7:=hok6.of_block fun b c hb=>hbB.block b (Nat.lt_of_not_le fun h=>by rw [hok1f b h] at hb;cases hb)
 have HB7:=Qh (HB6.out.far hbB hsz1)
 have hb7':=hb6'.trans (hbB.mono (Nat.le_of_lt hsz1))
 clear hbd6 hbd7 hb7 hbB hb6' hok6 HB6 Hnu
 obtain ⟨c0,c1,c2,c3,c4,c5,c6⟩:=HB7.out
 have Hv:=Qh hva
 clear hva hvx
 go_wp2_with fail
 clear c0 c1 c2 c3 c4 c5 c6
 go_loopw [32] (fun s32 wr=> ∃k:Nat,k≤e.attrs.length∧s32= .int .i64 k∧Lib.IsBuilder 119 5 w1.heap.size w1.heap.size (Lib.byteCells (N++attK e.attrs k)) wr∧Ok I wr∧EntB wr w.heap.size e (.slice aa e.attrs.length ca) (.slice ax e.exts.length cx)∧Below w.heap.size w wr∧w1.heap.size<wr.heap.size) (fun i _=>e.attrs.length-(intOf i).toNat)
 case atStart=>exact ⟨0,Nat.zero_le _,rfl,Hbd7.out,hok7,HB7.out,hb7',hsz7⟩
 case round=>
  clear Hbd7 HB7 hb7' hok7 hsz7 hsz6 hsz5
  obtain ⟨k,hk,rfl,hbd,hwr,hBe,hb,hsz⟩:=hrel
  have Hbd:=Qh hbd
  have HBe:=Qh hBe
  clear hbd hBe
  have hal:=Hl.out k
  by_cases hlt:k<e.attrs.length
  ·obtain ⟨x,b,off,cap',hlx,hvv,c0,c1⟩:=atAt Hv.out hwr k hlt
   cases hvv
   have hax:=Hat.out x (by rw [←hlx];exact List.getElem_mem hlt)
   have Hst:=Qh (Xmj hlt hlx)
   have hk1:=Xal x.k (by omega)
   have hk2:=Xal x.v (by omega)
   have hns:netsP [x.k,x.v]=netP x.k++netP x.v:=by simp [netsP]
   have Hs:=Qh (fun w hv hw=>Xhm I hI (wr.heap.size+1) 0 2 2 [x.k,x.v] rfl (by simp) (by unfold maxLen;omega) w hv (by rw [hns];simp;omega) hw)
   have HS:=Qh (show StrsAt ((wr.alloc (.cells #[S x.k,S x.v] 114)).alloc (.cells #[S x.k,S x.v] 9)) (wr.heap.size+1) 0 [x.k,x.v] by
    have:=Xip (wr.alloc (.cells #[S x.k,S x.v] 114)) [x.k,x.v] 9
    rwa [show (wr.alloc (.cells #[S x.k,S x.v] 114)).heap.size=wr.heap.size+1 by simp] at this)
   rw [hns] at Hs
   clear hlx hns
   generalize netP x.k=p at Hst hk1 Hs
   generalize netP x.v=q at Hst hk2 Hs
   generalize attK e.attrs k=u at Hst hal Hbd
   go_wp2_with fail
   refine (Hs.out _ HS.out ((hwr.alloc _).alloc _)).mono ?_
   rintro e1 w2 ⟨rfl,hb1⟩
   have hbA:Below wr.heap.size wr w2:=(((Qb _ _).alloc (Qn _) _).alloc (by simp) _).trans (hb1.mono (by simp;omega))
   have hbd1:=Xap Hbd.out hbA
   have hok1:Ok I w2:=hwr.below (Qn _) hbA
   have HB1:=Qh (HBe.out.thru hbA)
   have hsz2:=hbA.size
   have hb1':=hb.trans (hbA.mono hb.size)
   clear hb1 hbA Hbd c0 c1 HS Hs
   go_wp2_with fail
   refine (Tryz.Builder_WriteString w1.heap.size w1.heap.size _ _ _ hbd1 (by rw [ByteArray.size_mk',List.size_toArray];simp [Lib.byteCells];omega) (by omega)).mono ?_
   rintro e2 w3 ⟨rfl,hbd2,hb2⟩
   have hsz3:=hbd2.lt
   have Hbd2:=Qh (show Lib.IsBuilder 119 5 w1.heap.size w1.heap.size (Lib.byteCells (N++attK e.attrs (k+1))) w3 from .inr (by
    have:=hbd2
    rw [Lib.strCells_toArray,Lib.byteCells,Lib.byteCells,←List.map_append,List.append_assoc,←Hst.out] at this
    exact this))
   have hbB:Below w1.heap.size w2 w3:=hb2
   have hok3:Ok I w3:=hok1.of_block fun b c hb=>hbB.block b (Nat.lt_of_not_le fun h=>by rw [hok1f b h] at hb;cases hb)
   have HB3:=Qh (HB1.out.far hbB hsz1)
   clear hbd1 hbd2 hok1 HB1 hb2
   go_wp2
   go_roundw
   case rel=>exact ⟨k+1,by omega,by go_num,Hbd2.out,hok3,HB3.out,hb1'.trans (hbB.mono (Nat.le_of_lt hsz1)),hsz3⟩
   case measure=>simp [intOf];omega
  ·have Hn:=Qh (Xot e.attrs (k:=k) (by omega))
   rw [Hn.out] at Hbd hal
   have htn:=Xal e.target (by omega)
   have Hnt:=Qh (fun w hw=>Xca I hI e.target (by omega) w hw)
   have Hh:=Qh (show N++attP e.attrs++netP e.target=headE e by rw [←HN.out];rfl)
   generalize netP e.target=q at htn Hnt Hh
   generalize attP e.attrs=u at Hbd hal Hh
   obtain ⟨c0,c1,c2,c3,c4,c5,c6⟩:=HBe.out
   go_wp2_with fail
   refine (Hnt.out _ hwr).mono ?_
   rintro e1 w2 ⟨rfl,hb1⟩
   have hbd1:=Xap Hbd.out hb1
   have hsz2:=hb1.size
   have hb1':=hb.trans (hb1.mono hb.size)
   clear hb1 Hbd c0 c1 c2 c3 c4 c5 c6 HBe
   go_wp2_with fail
   refine (Tryz.Builder_WriteString w1.heap.size w1.heap.size _ _ _ hbd1 (by rw [ByteArray.size_mk',List.size_toArray];simp [Lib.byteCells];omega) (by omega)).mono ?_
   rintro e2 w3 ⟨rfl,hbd2,hb2⟩
   have hsz3:=hbd2.lt
   have Hbd2:=Qh (show Lib.IsBuilder 119 5 w1.heap.size w1.heap.size (Lib.byteCells (headE e)) w3 from .inr (by
    have:=hbd2
    rw [Lib.strCells_toArray,Lib.byteCells,Lib.byteCells,←List.map_append,Hh.out] at this
    exact this))
   have hb2':=hb1'.trans (hb2.mono (Nat.le_of_lt hsz1))
   clear hbd1 hbd2 hb2
   go_wp2_with fail
   refine (Tryz.Builder_String_any w1.heap.size w1.heap.size _ _ Hbd2.out (Nat.le_of_lt hsz3)).mono ?_
   rintro e3 w4 ⟨rfl,hb4⟩
   go_wp2
   go_ret2
   exact ⟨rfl,hb2'.trans (hb4.mono (Nat.le_of_lt hsz1))⟩
set_option maxRecDepth 100000 in
set_option maxHeartbeats 400000 in
theorem Xpy (I:IH) (hI:Glob I) (e:Ent) (va vx:Value) (hva:RdS tAt I va e.attrs) (hvx:RdS tXt I vx e.exts) (hwf:e.Wf) (hpl:e.path.length≤4294967280) (htl:e.target.length≤4294967280) (he:entErr e≠0) (w:World) (hw:Ok I w):
 Calls Tryz.prog 131 #[entV e va vx] w fun r w'=>r= .returned (.tuple #[S [],.int .i64 (entErr e)])∧Below w.heap.size w w':=by
 have Hck:=Qh (fun w hw=>Xj9 I hI e va vx hva hvx hwf hpl htl w hw)
 obtain ⟨aa,ca,rfl,_,_,_⟩:=id hva
 obtain ⟨ax,cx,rfl,_,_,_⟩:=id hvx
 obtain ⟨q,hq⟩:∃q,entErr e=q:=⟨_,rfl⟩
 rw [hq] at Hck he ⊢
 have hn0:(q != 0)=true:=by simpa using he
 clear hq he
 go_enter Tryz.func131,Tryz.ntmps131
 go_wp2_with fail
 refine (Hck.out _ (hw.alloc _)).mono ?_
 rintro e1 w1 ⟨rfl,hb1⟩
 have hb1':=((Qb w.heap.size w).alloc (Qn _) (.cells #[.int .i64 e.kind,S e.path,.slice aa e.attrs.length ca,S e.target,.int .i64 e.size,S e.digest,.slice ax e.exts.length cx] 39)).trans (hb1.mono (by simp))
 go_wp2
 go_ret2
 exact ⟨rfl,hb1'⟩
set_option maxRecDepth 100000 in
set_option maxHeartbeats 400000 in
theorem Xl0 (I:IH) (hI:Glob I) (e:Ent) (va vx:Value) (hva:RdS tAt I va e.attrs) (hvx:RdS tXt I vx e.exts) (hwf:e.Wf) (hpl:e.path.length≤4294967280) (htl:e.target.length≤4294967280) (he:entErr e≠0) (w:World) (hw:Ok I w):
 Calls Tryz.prog 76 #[entV e va vx] w fun r w'=>r= .returned (.tuple #[S [],.int .i64 (entErr e)])∧Below w.heap.size w w':=by
 have Hck:=Qh (fun w hw=>Xpy I hI e va vx hva hvx hwf hpl htl he w hw)
 obtain ⟨aa,ca,rfl,_,_,_⟩:=id hva
 obtain ⟨ax,cx,rfl,_,_,_⟩:=id hvx
 obtain ⟨q,hq⟩:∃q,entErr e=q:=⟨_,rfl⟩
 rw [hq] at Hck he ⊢
 have hn0:(q != 0)=true:=by simpa using he
 clear hq he
 go_enter Tryz.func76,Tryz.ntmps76
 go_wp2_with fail
 refine (Hck.out _ (hw.alloc _)).mono ?_
 rintro e1 w1 ⟨rfl,hb1⟩
 have hb1':=((Qb w.heap.size w).alloc (Qn _) (.cells #[.int .i64 e.kind,S e.path,.slice aa e.attrs.length ca,S e.target,.int .i64 e.size,S e.digest,.slice ax e.exts.length cx] 39)).trans (hb1.mono (by simp))
 go_wp2
 go_ret2
 exact ⟨rfl,hb1'⟩
theorem Xck {b:Nat} {u v z:Bytes} {w:World} (h:Lib.BuilderAt 119 5 b b (.pointer (some ⟨b,0,none⟩)) (Lib.byteCells u++Lib.strCells ⟨v.toArray⟩) w) (e:u++v=z):Lib.IsBuilder 119 5 b b (Lib.byteCells z) w:= .inr (by
 rw [Lib.strCells_toArray,show Lib.byteCells u++Lib.byteCells v=Lib.byteCells z by rw [←e];simp [Lib.byteCells]] at h
 exact h)
set_option maxRecDepth 100000 in
set_option maxHeartbeats 4000000 in
theorem Xr5 (I:IH) (hI:Glob I) (e:Ent) (va vx:Value) (hva:RdS tAt I va e.attrs) (hvx:RdS tXt I vx e.exts) (hwf:e.Wf) (hpl:e.path.length≤4294967280) (htl:e.target.length≤4294967280) (hc:EncOk e) (he:entErr e=0) (hx:e.exts.length≤1000) (w:World) (hw:Ok I w):
 Calls Tryz.prog 76 #[entV e va vx] w fun r w'=>r= .returned (.tuple #[S (encE e),.int .i64 0])∧Below w.heap.size w w':=by
 have Hck:=Qh (fun w hw=>Xu0 I hI e va vx hva hvx hwf hpl htl hc he w hw)
 obtain ⟨aa,ca,rfl,_,_,_⟩:=id hva
 obtain ⟨ax,cx,rfl,_,_,_⟩:=id hvx
 have Hv:=Qh hvx
 have hs0:=hc.s0
 have hs1:=hc.s1
 have hd32:=hc.digest
 have Hxs:=Qh hc.xts
 have Hl:=Qh (Xj6 hc hx)
 have hl0:=Hl.out 0
 have hhl:=Xhw hc
 have Hz:=Qh (show netP (headE e)++numP e.size++netP e.digest++numP e.exts.length=encK e 0 from (Xly e).symm)
 have hl1:=Xal (headE e) (by omega)
 have hl2:=Xbd hs0 (by omega)
 have hl3:=Xal e.digest (by omega)
 have hl4:=Xbm e.exts.length (by omega)
 have H1:=Qh (fun w hw=>Xca I hI (headE e) (by omega) w hw)
 have H2:=Qh (fun w hw=>Xfp I hI e.size hs0 (by omega) w hw)
 have H3:=Qh (fun w hw=>Xca I hI e.digest (by omega) w hw)
 have H4:=Qh (fun w hw=>Xcu I hI e.exts.length (by omega) w hw)
 clear hva hvx hc he
 generalize netP (headE e)=p1 at Hz hl1 H1
 generalize numP e.size=p2 at Hz hl2 H2
 generalize netP e.digest=p3 at Hz hl3 H3
 generalize numP (e.exts.length:Int)=p4 at Hz hl4 H4
 generalize headE e=hd at Hck H1 hhl hl1
 go_enter Tryz.func76,Tryz.ntmps76
 go_wp2_with fail
 refine (Hck.out _ (hw.alloc _)).mono ?_
 rintro e1 w1 ⟨rfl,hb1⟩
 have HB1:=Qh (entB (e:=e) rfl hb1)
 have hok1:Ok I w1:=(hw.alloc _).below (Qn _) hb1
 have hb1':=((Qb w.heap.size w).alloc (Qn _) (.cells #[.int .i64 e.kind,S e.path,.slice aa e.attrs.length ca,S e.target,.int .i64 e.size,S e.digest,.slice ax e.exts.length cx] 39)).trans (hb1.mono (by simp))
 have hbd1:Lib.IsBuilder 119 5 w1.heap.size w1.heap.size (Lib.byteCells []) (w1.alloc (.cells #[.pointer none,.slice none 0 0] 119)):=Lib.fresh_isBuilder _ _ w1
 have hsz1:w.heap.size<w1.heap.size:=by have:=hb1.size;simp at this;omega
 have hok1f:∀b,w1.heap.size≤b→I b=none:=fun b hb=>hok1.fresh hb
 have HB1a:=Qh (EntB.past HB1.out (.cells #[.pointer none,.slice none 0 0] 119))
 have hok1a:Ok I (w1.alloc (.cells #[.pointer none,.slice none 0 0] 119)):=hok1.alloc _
 obtain ⟨c0,c1,c2,c3,c4,c5,c6⟩:=HB1a.out
 have e4:=cell_regrown c4
 have e5:=cell_regrown c5
 have e6:=cell_regrown c6
 clear hb1 Hck c0 c1 c2 c3
 go_wp2_with fail
 refine Xae 15 (by kernel_rfl) (by kernel_rfl) ?_
 simp only [List.take_succ_cons,List.take_zero,List.drop_succ_cons,List.drop_zero]
 repeat (go_big_quiet_step ((with_reducible first|exact Calls.regrown_of (H1.out _ (hok1a.below (Qn _) (below_regrown _ _ _)))|exact Calls.regrown_of (H2.out _ (hok1a.below (Qn _) (below_regrown _ _ _)))|exact Calls.regrown_of (H3.out _ (hok1a.below (Qn _) (below_regrown _ _ _)))|exact Calls.regrown_of (H4.out _ (hok1a.below (Qn _) (below_regrown _ _ _))))))
 refine wpQuiet_nil ?_
 intro w2 hwq
 have hb2:Below ((w1.alloc (.cells #[.pointer none,.slice none 0 0] 119))).heap.size ((w1.alloc (.cells #[.pointer none,.slice none 0 0] 119))) w2:=by
  obtain ⟨pq,rfl⟩:=hwq
  exact below_regrown _ _ _
 clear hwq
 have hbd2:=Xap hbd1 hb2
 have hok2:Ok I w2:=hok1a.below (Qn _) hb2
 have HB2:=Qh (HB1a.out.thru hb2)
 have hb2':Below w.heap.size w w2:=(hb1'.alloc (by have:=hb1'.size;omega) (.cells #[.pointer none,.slice none 0 0] 119)).trans (hb2.mono (by simp;omega))
 have hsz2:w1.heap.size≤w2.heap.size:=by have:=hb2.size;simp at this;omega
 clear e4 e5 e6 c4 c5 c6 hb2 HB1 HB1a hbd1 hok1 hok1a hb1' H1 H2 H3 H4
 go_wp2_with fail
 refine (Tryz.Builder_WriteString w1.heap.size w1.heap.size _ _ _ hbd2 (by rw [ByteArray.size_mk',List.size_toArray];simp [Lib.byteCells];omega) (by omega)).mono ?_
 rintro e7 w7 ⟨rfl,hbd7,hb7⟩
 have hsz7:=hbd7.lt
 have Hbd7:=Qh (Xck (z:=encK e 0) hbd7 (by rw [←Hz.out];simp))
 have hok7:Ok I w7:=hok2.of_block fun b c hb=>hb7.block b (Nat.lt_of_not_le fun h=>by rw [hok1f b h] at hb;cases hb)
 have HB7:=Qh (HB2.out.far hb7 hsz1)
 have hb7':=hb2'.trans (hb7.mono (Nat.le_of_lt hsz1))
 clear hbd2 hbd7 hb7 hb2' hok2 HB2 hl0 hsz2
 obtain ⟨c0,c1,c2,c3,c4,c5,c6⟩:=HB7.out
 go_wp2_with fail
 clear c0 c1 c2 c3 c4 c5 c6
 go_loopw [36] (fun s36 wr=> ∃k:Nat,k≤e.exts.length∧s36= .int .i64 k∧Lib.IsBuilder 119 5 w1.heap.size w1.heap.size (Lib.byteCells (encK e k)) wr∧Ok I wr∧Below w.heap.size w wr∧w1.heap.size<wr.heap.size) (fun i _=>e.exts.length-(intOf i).toNat)
 case atStart=>exact ⟨0,Nat.zero_le _,rfl,Hbd7.out,hok7,hb7',hsz7⟩
 case round=>
  clear Hbd7 HB7 hb7' hok7 hsz7
  obtain ⟨k,hk,rfl,hbd,hwr,hb,hsz⟩:=hrel
  have Hbd:=Qh hbd
  clear hbd
  have hal:=Hl.out k
  by_cases hlt:k<e.exts.length
  ·obtain ⟨x,b,off,cap',hlx,hvv,c0,c1,c2⟩:=xtAt Hv.out hwr k hlt
   cases hvv
   obtain ⟨y0,y1,y2,y3,y4,y5⟩:=Hxs.out x (by rw [←hlx];exact List.getElem_mem hlt)
   have Hst:=Qh (Xlz hlt hlx)
   have hm1:=Xbd (n:=x.s) (by omega) (by omega)
   have hm2:=Xbd (n:=x.o) (by omega) (by omega)
   have hm3:=Xbd (n:=x.n) (by omega) (by omega)
   have H1:=Qh (fun w hw=>Xfp I hI x.s (by omega) (by omega) w hw)
   have H2:=Qh (fun w hw=>Xfp I hI x.o (by omega) (by omega) w hw)
   have H3:=Qh (fun w hw=>Xfp I hI x.n (by omega) (by omega) w hw)
   have hwa:Ok I (wr.alloc (.cells #[.int .i64 x.s,.int .i64 x.o,.int .i64 x.n] 73)):=hwr.alloc _
   have g0:=cell_regrown (show (wr.alloc (.cells #[.int .i64 x.s,.int .i64 x.o,.int .i64 x.n] 73)).cell? ⟨wr.heap.size,0,none⟩=some (.int .i64 x.s) by simp)
   have g1:=cell_regrown (show (wr.alloc (.cells #[.int .i64 x.s,.int .i64 x.o,.int .i64 x.n] 73)).cell? ⟨wr.heap.size,1,none⟩=some (.int .i64 x.o) by simp)
   have g2:=cell_regrown (show (wr.alloc (.cells #[.int .i64 x.s,.int .i64 x.o,.int .i64 x.n] 73)).cell? ⟨wr.heap.size,2,none⟩=some (.int .i64 x.n) by simp)
   clear hlx
   generalize numP x.s=q1 at Hst hm1 H1
   generalize numP x.o=q2 at Hst hm2 H2
   generalize numP x.n=q3 at Hst hm3 H3
   generalize encK e k=u at Hst hal Hbd
   go_wp2_with fail
   refine Xae 11 (by kernel_rfl) (by kernel_rfl) ?_
   simp only [List.take_succ_cons,List.take_zero,List.drop_succ_cons,List.drop_zero]
   repeat (go_big_quiet_step ((with_reducible first|exact Calls.regrown_of (H1.out _ (hwa.below (Qn _) (below_regrown _ _ _)))|exact Calls.regrown_of (H2.out _ (hwa.below (Qn _) (below_regrown _ _ _)))|exact Calls.regrown_of (H3.out _ (hwa.below (Qn _) (below_regrown _ _ _))))))
   refine wpQuiet_nil ?_
   intro w2 hwq
   have hb2:Below ((wr.alloc (.cells #[.int .i64 x.s,.int .i64 x.o,.int .i64 x.n] 73))).heap.size ((wr.alloc (.cells #[.int .i64 x.s,.int .i64 x.o,.int .i64 x.n] 73))) w2:=by
    obtain ⟨pq,rfl⟩:=hwq
    exact below_regrown _ _ _
   clear hwq
   have hbd2:=Xap (Xke Hbd.out _) hb2
   have hok2:Ok I w2:=hwa.below (Qn _) hb2
   have hb2':Below w.heap.size w w2:=(hb.alloc hb.size (.cells #[.int .i64 x.s,.int .i64 x.o,.int .i64 x.n] 73)).trans (hb2.mono (by have:=hb.size;simp;omega))
   have hsz2:w1.heap.size≤w2.heap.size:=by have:=hb2.size;simp at this;omega
   clear g0 g1 g2 hb2 hwa Hbd c0 c1 c2 H1 H2 H3
   go_wp2_with fail
   refine (Tryz.Builder_WriteString w1.heap.size w1.heap.size _ _ _ hbd2 (by rw [ByteArray.size_mk',List.size_toArray];simp [Lib.byteCells];omega) (by omega)).mono ?_
   rintro e7 w7 ⟨rfl,hbd7,hb7⟩
   have hsz7:=hbd7.lt
   have Hbd7:=Qh (Xck (z:=encK e (k+1)) hbd7 (by rw [Hst.out];simp))
   have hok7:Ok I w7:=hok2.of_block fun b c hb=>hb7.block b (Nat.lt_of_not_le fun h=>by rw [hok1f b h] at hb;cases hb)
   have hb7':=hb2'.trans (hb7.mono (Nat.le_of_lt hsz1))
   clear hbd2 hbd7 hb7 hb2' hok2
   go_wp2
   go_roundw
   case rel=>exact ⟨k+1,by omega,by go_num,Hbd7.out,hok7,hb7',hsz7⟩
   case measure=>simp [intOf];omega
  ·have Hn:=Qh (Xj7 e (k:=k) (by omega))
   rw [Hn.out] at Hbd
   go_wp2_with fail
   refine (Tryz.Builder_String_any w1.heap.size w1.heap.size _ _ Hbd.out (Nat.le_of_lt hsz)).mono ?_
   rintro e3 w4 ⟨rfl,hb4⟩
   go_wp2
   go_ret2
   exact ⟨rfl,hb.trans (hb4.mono (Nat.le_of_lt hsz1))⟩
abbrev sesCs (s:Ses) (ve:Value):List Value:= [.int .i64 s.num,.int .i64 s.date,S s.prev,ve,S s.stream,S s.sl]
abbrev sesV (s:Ses) (ve:Value):Value:= .agg #[.int .i64 s.num,.int .i64 s.date,S s.prev,ve,S s.stream,S s.sl]
def tSes:Ty Ses where
 size:=6
 rd:=fun I cs s=> ∃ve,cs=sesCs s ve∧RdS tEnt I ve s.ents
 len:=fun ⟨_,h,_⟩=>by rw [h];rfl
 one:=fun ⟨ve,h,h1⟩ u hu=>by
  rw [h] at hu
  simp at hu
  rcases hu with rfl|rfl|rfl|rfl|rfl|rfl<;>first|rfl|exact h1.one
 mono:=fun hI ⟨ve,h,h1⟩=>⟨ve,h,h1.mono hI⟩
structure SesAt (w:World) (b o:Nat) (s:Ses) (ve:Value):Prop where
 c0:w.cell? ⟨b,o,none⟩=some (.int .i64 s.num)
 c1:w.cell? ⟨b,o+1,none⟩=some (.int .i64 s.date)
 c2:w.cell? ⟨b,o+2,none⟩=some (S s.prev)
 c3:w.cell? ⟨b,o+3,none⟩=some ve
 c4:w.cell? ⟨b,o+4,none⟩=some (S s.stream)
 c5:w.cell? ⟨b,o+5,none⟩=some (S s.sl)
structure SesB (w:World) (n:Nat) (s:Ses) (ve:Value):Prop where
 c0:w.cell? ⟨n,0,none⟩=some (.int .i64 s.num)
 c1:w.cell? ⟨n,1,none⟩=some (.int .i64 s.date)
 c2:w.cell? ⟨n,2,none⟩=some (S s.prev)
 c3:w.cell? ⟨n,3,none⟩=some ve
 c4:w.cell? ⟨n,4,none⟩=some (S s.stream)
 c5:w.cell? ⟨n,5,none⟩=some (S s.sl)
theorem SesB.thru {w w':World} {b:Nat} {s:Ses} {ve:Value} (h:SesB w b s ve) (hb:Below w.heap.size w w'):SesB w' b s ve:=
 ⟨Xaa hb h.c0,Xaa hb h.c1,Xaa hb h.c2,Xaa hb h.c3,Xaa hb h.c4,Xaa hb h.c5⟩
theorem SesB.past {w:World} {b:Nat} {s:Ses} {ve:Value} (h:SesB w b s ve) (x:Obj):SesB (w.alloc x) b s ve:=
 ⟨Xab x h.c0,Xab x h.c1,Xab x h.c2,Xab x h.c3,Xab x h.c4,Xab x h.c5⟩
theorem SesB.far {w w':World} {b B:Nat} {s:Ses} {ve:Value} (h:SesB w b s ve) (hb:Below B w w') (hn:b<B):SesB w' b s ve:=
 ⟨(hb.cell hn).trans h.c0,(hb.cell hn).trans h.c1,(hb.cell hn).trans h.c2,(hb.cell hn).trans h.c3,(hb.cell hn).trans h.c4,(hb.cell hn).trans h.c5⟩
theorem sesB {W w':World} {s:Ses} {ve:Value} {t:TypeId} {n:Nat} (hn:n=W.heap.size) (hb:Below (W.alloc (.cells #[.int .i64 s.num,.int .i64 s.date,S s.prev,ve,S s.stream,S s.sl] t)).heap.size (W.alloc (.cells #[.int .i64 s.num,.int .i64 s.date,S s.prev,ve,S s.stream,S s.sl] t)) w'):SesB w' n s ve:=by
 subst hn
 exact SesB.thru ⟨by simp,by simp,by simp,by simp,by simp,by simp⟩ hb
theorem Xdc {I:IH} {v:Value} {l:List Ses} {w:World} (h:RdS tSes I v l) (hw:Ok I w) (i:Nat) (hi:i<l.length):∃x ve b off cap,l[i]=x∧v= .slice (some ⟨b,off,none⟩) l.length cap∧
 SesAt w b (off+i*6) x ve∧RdS tEnt I ve x.ents:=by
 obtain ⟨b,off,cap,cs,hv,⟨ve,hcs,h1⟩,hc⟩:=h.at_ hw hi
 subst hcs
 exact ⟨_,ve,b,off,cap,rfl,hv,⟨hc 0 _ rfl,hc 1 _ rfl,hc 2 _ rfl,hc 3 _ rfl,hc 4 _ rfl,hc 5 _ rfl⟩,h1⟩
structure SesG (s:Ses):Prop where
 nents:s.ents.length≤30
 stream:s.stream.length≤1000
 prev:s.prev.length≤100
 sl:s.sl.length≤2100
 wf:∀e∈s.ents,e.Wf
 path:∀e∈s.ents,e.path.length≤300
 target:∀e∈s.ents,e.target.length≤300
 exts:∀e∈s.ents,e.exts.length≤30
 num: -9223372036854775808≤s.num∧s.num≤9223372036854775807
 date: -9223372036854775808≤s.date∧s.date≤9223372036854775807
set_option maxRecDepth 100000 in
set_option maxHeartbeats 2000000 in
theorem Xmb (s:Ses) (ao:Option Addr) (co:Nat) (w:World):
 Calls Tryz.prog 72 #[sesV s (.slice ao s.ents.length co)] w fun r w'=>r= .returned (.int .i64 (fldErr s))∧Below w.heap.size w w':=by
 by_cases h1:s.num<1
 ·have d1:decide (s.num<1)=true:=Qt h1
  have Hn:=Qh (show fldErr s=2 by rw [fldErr,if_pos (.inl h1)])
  clear h1
  go_enter Tryz.func72,Tryz.ntmps72
  go_wp2
  go_ret
  exact ⟨Xac Hn.out.symm,(Qb w.heap.size w).alloc (Qn _) _⟩
 have d1:decide (s.num<1)=false:=Qf h1
 by_cases h2:255<s.num
 ·have d2:decide (255<s.num)=true:=Qt h2
  have Hn:=Qh (show fldErr s=2 by rw [fldErr,if_pos (.inr (.inl h2))])
  clear h1 h2
  go_enter Tryz.func72,Tryz.ntmps72
  go_wp2
  go_ret
  exact ⟨Xac Hn.out.symm,(Qb w.heap.size w).alloc (Qn _) _⟩
 have d2:decide (255<s.num)=false:=Qf h2
 by_cases h3:s.date<0
 ·have d3:decide (s.date<0)=true:=Qt h3
  have Hn:=Qh (show fldErr s=2 by rw [fldErr,if_pos (.inr (.inr (.inl h3)))])
  clear h1 h2 h3
  go_enter Tryz.func72,Tryz.ntmps72
  go_wp2
  go_ret
  exact ⟨Xac Hn.out.symm,(Qb w.heap.size w).alloc (Qn _) _⟩
 have d3:decide (s.date<0)=false:=Qf h3
 by_cases h4:1000000000<s.date
 ·have d4:decide (1000000000<s.date)=true:=Qt h4
  have Hn:=Qh (show fldErr s=2 by rw [fldErr,if_pos (.inr (.inr (.inr h4)))])
  clear h1 h2 h3 h4
  go_enter Tryz.func72,Tryz.ntmps72
  go_wp2
  go_ret
  exact ⟨Xac Hn.out.symm,(Qb w.heap.size w).alloc (Qn _) _⟩
 have d4:decide (1000000000<s.date)=false:=Qf h4
 have hf:fldErr s=if s.prev≠ []∧s.prev.length≠32 then 1 else 0:=by
  rw [fldErr,if_neg]
  rintro (h|h|h|h)<;>contradiction
 clear h1 h2 h3 h4
 by_cases h5:s.prev= []
 ·have Hn:=Qh (show fldErr s=0 by rw [hf,if_neg fun q=>q.1 h5])
  obtain ⟨p1,p2,p3,p4⟩:=Xcy h5
  clear h5 hf
  go_enter Tryz.func72,Tryz.ntmps72
  go_wp2
  go_ret
  exact ⟨Xac Hn.out.symm,(Qb w.heap.size w).alloc (Qn _) _⟩
 obtain ⟨p1,p2,p3,p4⟩:=Xcq h5
 by_cases h6:s.prev.length=32
 ·have d6:((s.prev.length:Int) != 32)=false:=by rw [h6];rfl
  have d7:((s.prev.length:Int)==32)=true:=by rw [h6];rfl
  have Hn:=Qh (show fldErr s=0 by rw [hf,if_neg fun q=>q.2 h6])
  clear h5 hf h6
  go_enter Tryz.func72,Tryz.ntmps72
  go_wp2
  go_ret
  exact ⟨Xac Hn.out.symm,(Qb w.heap.size w).alloc (Qn _) _⟩
 ·have d6:((s.prev.length:Int) != 32)=true:=by simpa using (show (s.prev.length:Int)≠32 by omega)
  have d7:((s.prev.length:Int)==32)=false:=by simpa using (show (s.prev.length:Int)≠32 by omega)
  have Hn:=Qh (show fldErr s=1 by rw [hf,if_pos ⟨h5,h6⟩])
  clear h5 hf h6
  go_enter Tryz.func72,Tryz.ntmps72
  go_wp2
  go_ret
  exact ⟨Xac Hn.out.symm,(Qb w.heap.size w).alloc (Qn _) _⟩
def sesK (s:Ses) (k:Nat):Bytes:=sesHead s++(s.ents.take k).flatMap encE
theorem Xkq {s:Ses} {k:Nat} (hk:k<s.ents.length) {x:Ent} (hx:s.ents[k]=x):sesK s (k+1)=sesK s k++encE x:=by
 rw [sesK,sesK,List.take_succ_eq_append_getElem hk,hx,List.flatMap_append,←List.append_assoc]
 simp
theorem Xjk (s:Ses) {k:Nat} (h:s.ents.length≤k):sesK s k=sesText s:=by rw [sesK,List.take_of_length_le h];rfl
theorem Xje (s:Bytes):(sumP s).length≤32:=by
 unfold sumP
 rw [List.length_map]
 exact Xf6 _ 8
theorem Xmv {s:Ses} (h:SesG s) (hf:fldErr s=0):(sesHead s).length≤400:=by
 have hk:=Xdp hf
 have h1:=Xbd (n:=s.num) (by omega) (by omega)
 have h2:=Xbd (n:=s.date) (by omega) (by omega)
 have h3:=Xal s.prev (by have:=h.prev;omega)
 have h4:=Xbm s.stream.length (by have:=h.stream;omega)
 have h5:=Xje s.stream
 have h6:=Xal (sumP s.stream) (by omega)
 have h7:=Xbm s.ents.length (by have:=h.nents;omega)
 have h8:=h.prev
 unfold sesHead
 simp only [List.length_append]
 omega
theorem Xom:∀ {l:List Ent},(∀e∈l,EncOk e∧e.exts.length≤1000)→(l.flatMap encE).length≤54000*l.length
 | [],_=>by simp
 |e::l,h=>by
  have h1:=Xj8 (h e (List.mem_cons_self ..)).1 (h e (List.mem_cons_self ..)).2
  have h2:=Xom fun x hx=>h x (List.mem_cons_of_mem _ hx)
  simp only [List.flatMap_cons,List.length_append,List.length_cons]
  omega
theorem Xjj {s:Ses} (h:SesG s) (hf:fldErr s=0) {k:Nat} (hv:∀e∈s.ents.take k,entErr e=0):(sesK s k).length≤1700000:=by
 have h1:=Xmv h hf
 have h2:=Xom (l:=s.ents.take k) fun e he=>⟨Xd5 (hv e he),by have:=h.exts e (List.mem_of_mem_take he);omega⟩
 have h3:(s.ents.take k).length≤s.ents.length:=by simp;omega
 have h4:=h.nents
 unfold sesK
 rw [List.length_append]
 omega
theorem Xdr {l:List Ent} {k:Nat} (hk:k<l.length) {x:Ent} (hx:l[k]=x):entsErr (l.drop k)=if entErr x≠0 then entErr x else entsErr (l.drop (k+1)):=by
 rw [List.drop_eq_getElem_cons hk,hx];rfl
structure MAt (I:IH) (w0:World) (J:IH) (W:World):Prop where
 ok:Ok J W
 keep:∀b c,I b=some c→J b=some c
 bel:Below w0.heap.size w0 W
section
variable {I J J':IH} {w0 W W':World}
theorem MAt.start (h:Ok I w0):MAt I w0 I w0:=⟨h,fun _ _ h=>h,Qb _ _⟩
theorem MAt.quiet (h:MAt I w0 J W) (hb:Below W.heap.size W W'):MAt I w0 J W':=⟨h.ok.below (Qn _) hb,h.keep,h.bel.trans (hb.mono h.bel.size)⟩
theorem MAt.past (h:MAt I w0 J W) (o:Obj):MAt I w0 J (W.alloc o):=h.quiet ((Qb _ _).alloc (Qn _) o)
theorem MAt.ext (h:MAt I w0 J W) (hb:Below W.heap.size W W') (hx:Ext W.heap.size J J') (hok:Ok J' W'):MAt I w0 J' W':=
 ⟨hok,fun b c hc=>hx.keep h.ok (Qn _) b c (h.keep b c hc),h.bel.trans (hb.mono h.bel.size)⟩
theorem MAt.size (h:MAt I w0 J W):w0.heap.size≤W.heap.size:=h.bel.size
end
end Go.Proofs.YtdeknddamidldaaGreatDoor
namespace Go.Proofs.YtdeknddamidldaaGreatDoor
def xA:Xt:=⟨1,0,4⟩
def stA:Sto:=⟨[⟨digA,xA⟩],1,txtA⟩
set_option maxRecDepth 100000 in
theorem Xuj:segsP txtA= [⟨0,txtA⟩]:=by kernel_rfl
set_option maxRecDepth 100000 in
theorem Xu8:chunksP txtA= [txtA]:=by kernel_rfl
theorem Xq0:putP ⟨[],1,[]⟩ txtA=(stA,[xA],0):=by
 have h:(segsP txtA).foldl putG (⟨[],1,[]⟩,[])=(stA,[xA]):=by
  rw [Xuj]
  show putG (⟨[],1,[]⟩,[]) ⟨0,txtA⟩=_
  rw [putG,if_neg (by decide)]
  show (chunksP txtA).foldl putO (⟨[],1,[]⟩,[])=_
  rw [Xu8]
  rfl
 rw [putP,if_neg (by decide),if_neg (by decide),h]
set_option maxRecDepth 100000 in
theorem Xuy:getP [txtA] [xA]=(txtA,0):=by kernel_rfl
theorem Xvo:yA.Wf:=by
 have h:yA.digest.length=32:=Xqj _
 refine ⟨by decide,by decide,by decide,fun x hx=>(by cases hx),by decide,by decide,by decide,by omega,fun x hx=> ?_⟩
 have hx:x=xA:=by simpa [yA,xA] using hx
 subst hx
 exact ⟨⟨by decide,by decide⟩,⟨by decide,by decide⟩,⟨by decide,by decide⟩⟩
theorem Xvn:yR.Wf:=⟨by decide,by decide,by decide,fun x hx=>(by cases hx),by decide,by decide,by decide,by decide,fun x hx=>(by cases hx)⟩
end Go.Proofs.YtdeknddamidldaaGreatDoor
