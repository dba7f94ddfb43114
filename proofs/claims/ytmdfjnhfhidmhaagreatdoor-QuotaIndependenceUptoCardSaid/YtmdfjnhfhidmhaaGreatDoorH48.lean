/-
  Walks and laws that the claim's theorem uses: texts QuR QuS, joined; comments out. Conditions: as each theorem says.
-/
import Derived.Test.YtmdfjnhfhidmhaaGreatDoorH40
set_option linter.all false
namespace Go.Proofs.YtmdfjnhfhidmhaaGreatDoor
theorem Xm8 {l x y:List Acc} (h:AccsOk l) {a b:Rqs} (hne:a.owner≠b.owner) (ha:chargeP l a=(x,0)) (hb:chargeP l b=(y,0)):
 chargeP x b=(x.map (payO b),0)∧chargeP y a=(x.map (payO b),0):=by
 obtain ⟨e1,p,hp,po,pn⟩:=Xb3 h.srt ha
 obtain ⟨e2,q,hq,qo,qn⟩:=Xb3 h.srt hb
 have k1:=(h.charge ha).1
 have k2:=(h.charge hb).1
 have hq':q∈x:=by
  rw [e1]
  refine List.mem_map.2 ⟨q,hq,?_⟩
  unfold payO
  rw [if_neg (by rw [qo];exact fun e=>hne e.symm)]
 have hp':p∈y:=by
  rw [e2]
  refine List.mem_map.2 ⟨p,hp,?_⟩
  unfold payO
  rw [if_neg (by rw [po];exact hne)]
 refine ⟨?_,?_⟩
 ·rw [Xf5 k1.srt hq' qo,if_neg qn]
 ·rw [Xf5 k2.srt hp' po,if_neg pn,e1,e2,List.map_map,List.map_map]
  have:l.map (payO a ∘ payO b)=l.map (payO b ∘ payO a):=List.map_congr_left fun z _=>(Xql z).symm
  rw [this]
theorem Xh4 {l x:List Acc} (h:AccsOk l) {a:Rqs} (ha:chargeP l a=(x,0)):x.length=l.length∧ ∀i (h1:i<x.length) (h2:i<l.length),l[i].owner≠a.owner→x[i]=l[i]:=by
 obtain ⟨e1,_⟩:=Xb3 h.srt ha
 subst e1
 refine ⟨by simp,fun i h1 h2 hn=> ?_⟩
 rw [List.getElem_map]
 unfold payO
 rw [if_neg hn]
def annB:Bytes:= [97,110,110]
def bobB:Bytes:= [98,111,98]
def big:Int:=1099511627776
def twoA (w:Nat) (l:List Acc):Prop:= ∃u1 f1 u2 f2,l= [⟨annB,big,big,u1,f1⟩,⟨bobB,big,big,u2,f2⟩]∧(0≤u1∧u1≤w)∧(0≤f1∧f1≤w)∧(0≤u2∧u2≤w)∧(0≤f2∧f2≤w)
end Go.Proofs.YtmdfjnhfhidmhaaGreatDoor
namespace Go.Proofs.YtmdfjnhfhidmhaaGreatDoor
open Go.RowKit
theorem Xpb {l x:List Acc} (h:AccsOk l) {a:Rqs} (ha:chargeP l a=(x,0)) {k:Nat} (h1:k<l.length) (h2:k<x.length) (hn:(l[k].owner==a.owner)=false):x[k]=l[k]:=
 (Xh4 h ha).2 k h2 h1 (by simpa using hn)
set_option maxRecDepth 100000 in
set_option maxHeartbeats 4000000 in
theorem Xct (I:IH) (hI:Glob I) (v:Value) (l:List Acc) (hv:RdS tAcc I v l) (hl:∀a∈l,a.In) (hlo:∀a∈l,a.owner.length≤4294967280) (a:Rqs) (va:Value) (hva:RdS tAt I va a.c.attrs) (b:Rqs) (vb:Value) (hvb:RdS tAt I vb b.c.attrs) (hwt:weightP [a,b]≤4611686018427387904) (w:World) (hw:Ok I w):
 Calls Tryz.prog 12 #[v,rqV a va,rqV b vb] w fun e w'=>e= .returned (.bool true)∧Below w.heap.size w w':=by
 have Haw:=Qh (fun J (hk:∀b c,I b=some c→J b=some c) w hw=>Xfo J (hI.mono hk) w hw)
 obtain ⟨aa,ca,rfl,_,_,_⟩:=id hva
 obtain ⟨ba,cb,rfl,_,_,_⟩:=id hvb
 have A0:=((MAt.start hw).past (.cells #[S a.owner,.int .i64 a.c.kind,S a.c.path,.slice aa a.c.attrs.length ca,S a.c.target,S a.c.content] 27)).past (.cells #[S b.owner,.int .i64 b.c.kind,S b.c.path,.slice ba b.c.attrs.length cb,S b.c.target,S b.c.content] 27)
 have A1:=A0.past (.cells (rqCs a (.slice aa a.c.attrs.length ca)++rqCs b (.slice ba b.c.attrs.length cb)).toArray 27)
 have hlie:LiesL tRq I (rqCs a (.slice aa a.c.attrs.length ca)++rqCs b (.slice ba b.c.attrs.length cb)) [a,b]:=(LiesL.one (T:=tRq) (x:=a) (cs:=rqCs a _) ⟨_,rfl,hva⟩).append (LiesL.one (T:=tRq) (x:=b) (cs:=rqCs b _) ⟨_,rfl,hvb⟩)
 obtain ⟨J,hk,_,hok,_,hr⟩:=Xhm (T:=tRq) (l:= [a,b]) (cs:=rqCs a (.slice aa a.c.attrs.length ca)++rqCs b (.slice ba b.c.attrs.length cb)) A1.ok (heap_alloc_new ((w.alloc (.cells #[S a.owner,.int .i64 a.c.kind,S a.c.path,.slice aa a.c.attrs.length ca,S a.c.target,S a.c.content] 27)).alloc (.cells #[S b.owner,.int .i64 b.c.kind,S b.c.path,.slice ba b.c.attrs.length cb,S b.c.target,S b.c.content] 27)) _) (A0.ok.fresh (Qn _)) hlie (by simp)
 have A2:=Qh (show MAt I w J _ from ⟨hok,hk,A1.bel⟩)
 rw [World.size_alloc,World.size_alloc] at hr
 have Hgr:=Qh (Xi2 J v l (hv.mono hk) _ [a,b] hr hwt _ hok)
 have hcl:a.c.content.length≤9223372036854775807∧b.c.content.length≤9223372036854775807:=by
  have:weightP [a,b]=weightR a+weightR b:=by simp [weightP]
  unfold weightR at this
  omega
 have Hck:=Qh (fun J (hk:∀b c,I b=some c→J b=some c) w hw=>Xlc J (hI.mono hk) v l (hv.mono hk) hlo w hw)
 have Hqa:=Qh (fun (m:List Acc) (h:AccsFit m) J (hk:∀b c,I b=some c→J b=some c) v (hv:RdS tAcc J v m) w hw=>Xdq J v m hv h.acc h.len a _ (hva.mono hk) hcl.1 w hw)
 have Hqb:=Qh (fun (m:List Acc) (h:AccsFit m) J (hk:∀b c,I b=some c→J b=some c) v (hv:RdS tAcc J v m) w hw=>Xdq J v m hv h.acc h.len b _ (hvb.mono hk) hcl.2 w hw)
 have hs0:w.heap.size+1<(((w.alloc (.cells #[S a.owner,.int .i64 a.c.kind,S a.c.path,.slice aa a.c.attrs.length ca,S a.c.target,S a.c.content] 27)).alloc (.cells #[S b.owner,.int .i64 b.c.kind,S b.c.path,.slice ba b.c.attrs.length cb,S b.c.target,S b.c.content] 27)).alloc (.cells (rqCs a (.slice aa a.c.attrs.length ca)++rqCs b (.slice ba b.c.attrs.length cb)).toArray 27)).heap.size:=by simp
 have hbA:(((w.alloc (.cells #[S a.owner,.int .i64 a.c.kind,S a.c.path,.slice aa a.c.attrs.length ca,S a.c.target,S a.c.content] 27)).alloc (.cells #[S b.owner,.int .i64 b.c.kind,S b.c.path,.slice ba b.c.attrs.length cb,S b.c.target,S b.c.content] 27)).alloc (.cells (rqCs a (.slice aa a.c.attrs.length ca)++rqCs b (.slice ba b.c.attrs.length cb)).toArray 27)).heap[w.heap.size]? =some (.cells #[S a.owner,.int .i64 a.c.kind,S a.c.path,.slice aa a.c.attrs.length ca,S a.c.target,S a.c.content] 27):=
  ((((Qb (w.alloc (.cells #[S a.owner,.int .i64 a.c.kind,S a.c.path,.slice aa a.c.attrs.length ca,S a.c.target,S a.c.content] 27)).heap.size (w.alloc (.cells #[S a.owner,.int .i64 a.c.kind,S a.c.path,.slice aa a.c.attrs.length ca,S a.c.target,S a.c.content] 27))).alloc (Qn _) (.cells #[S b.owner,.int .i64 b.c.kind,S b.c.path,.slice ba b.c.attrs.length cb,S b.c.target,S b.c.content] 27)).alloc (by simp) _).block w.heap.size (by simp)).trans (heap_alloc_new w _)
 have hbB:(((w.alloc (.cells #[S a.owner,.int .i64 a.c.kind,S a.c.path,.slice aa a.c.attrs.length ca,S a.c.target,S a.c.content] 27)).alloc (.cells #[S b.owner,.int .i64 b.c.kind,S b.c.path,.slice ba b.c.attrs.length cb,S b.c.target,S b.c.content] 27)).alloc (.cells (rqCs a (.slice aa a.c.attrs.length ca)++rqCs b (.slice ba b.c.attrs.length cb)).toArray 27)).heap[w.heap.size+1]? =some (.cells #[S b.owner,.int .i64 b.c.kind,S b.c.path,.slice ba b.c.attrs.length cb,S b.c.target,S b.c.content] 27):=by
  have h2:=heap_alloc_new (w.alloc (.cells #[S a.owner,.int .i64 a.c.kind,S a.c.path,.slice aa a.c.attrs.length ca,S a.c.target,S a.c.content] 27)) (.cells #[S b.owner,.int .i64 b.c.kind,S b.c.path,.slice ba b.c.attrs.length cb,S b.c.target,S b.c.content] 27)
  rw [World.size_alloc] at h2
  exact (((Qb ((w.alloc (.cells #[S a.owner,.int .i64 a.c.kind,S a.c.path,.slice aa a.c.attrs.length ca,S a.c.target,S a.c.content] 27)).alloc (.cells #[S b.owner,.int .i64 b.c.kind,S b.c.path,.slice ba b.c.attrs.length cb,S b.c.target,S b.c.content] 27)).heap.size ((w.alloc (.cells #[S a.owner,.int .i64 a.c.kind,S a.c.path,.slice aa a.c.attrs.length ca,S a.c.target,S a.c.content] 27)).alloc (.cells #[S b.owner,.int .i64 b.c.kind,S b.c.path,.slice ba b.c.attrs.length cb,S b.c.target,S b.c.content] 27))).alloc (Qn _) (.cells (rqCs a (.slice aa a.c.attrs.length ca)++rqCs b (.slice ba b.c.attrs.length cb)).toArray 27)).block (w.heap.size+1) (by simp)).trans h2
 have HbA:=Qh hbA
 have HbB:=Qh hbB
 have Hv:=Qh hv
 have Hl:=Qh hl
 obtain ⟨ao,cap,rfl,_,_,_⟩:=id hv
 clear hI hv hva hvb hr hk hok A0 A1 hwt hcl hbA hbB hl hlo hlie
 go_enter Tryz.func12,Tryz.ntmps12
 go_wp2_with fail
 refine Hgr.out.mono ?_
 rintro e3 w3 ⟨rfl,hb3⟩
 have A3:=Qh (A2.out.quiet hb3)
 have hbA3:=(hb3.block _ (by omega)).trans HbA.out
 have hbB3:=(hb3.block _ hs0).trans HbB.out
 clear hb3 A2 HbA HbB hs0 Hgr
 by_cases g:12<l.length∨1500<weightP [a,b]
 ·rw [Qt g]
  clear g
  go_wp2_with fail
  refine (Haw.out _ A3.out.keep _ A3.out.ok).mono ?_
  rintro e9 w9 ⟨rfl,hb9⟩
  have A9:=Qh (A3.out.quiet hb9)
  go_wp2
  go_ret
  exact ⟨rfl,A9.out.bel⟩
 rw [Qf g]
 go_wp2_with fail
 refine (Hck.out _ A3.out.keep _ A3.out.ok).mono ?_
 rintro e4 w4 ⟨rfl,hb4⟩
 have A4:=Qh (A3.out.quiet hb4)
 have hbA4:=(hb4.block _ (Array.getElem?_eq_some_iff.1 hbA3).1).trans hbA3
 have hbB4:=(hb4.block _ (Array.getElem?_eq_some_iff.1 hbB3).1).trans hbB3
 clear hb4 A3 hbA3 hbB3
 by_cases h0:accsErr l=0
 case neg=>
  have i1:(accsErr l != 0)=true:=by simpa using h0
  clear h0 g
  go_wp2_with fail
  refine (Haw.out _ A4.out.keep _ A4.out.ok).mono ?_
  rintro e9 w9 ⟨rfl,hb9⟩
  have A9:=Qh (A4.out.quiet hb9)
  go_wp2
  go_ret
  exact ⟨rfl,A9.out.bel⟩
 have i1:(accsErr l != 0)=false:=by simp [h0]
 have Hf:=Qh (show AccsFit l from ⟨AccsOk.of h0,fun a ha=>(Hl.out a ha).b1,fun a ha=>(Hl.out a ha).f1,by omega⟩)
 clear h0 g
 have a0:w4.cell? ⟨w.heap.size,0,none⟩=some _:=(cell_of_row _ _ 0 _ _ _ hbA4).trans rfl
 have a1:w4.cell? ⟨w.heap.size,1,none⟩=some _:=(cell_of_row _ _ 1 _ _ _ hbA4).trans rfl
 have a2:w4.cell? ⟨w.heap.size,2,none⟩=some _:=(cell_of_row _ _ 2 _ _ _ hbA4).trans rfl
 have a3:w4.cell? ⟨w.heap.size,3,none⟩=some _:=(cell_of_row _ _ 3 _ _ _ hbA4).trans rfl
 have a4:w4.cell? ⟨w.heap.size,4,none⟩=some _:=(cell_of_row _ _ 4 _ _ _ hbA4).trans rfl
 have a5:w4.cell? ⟨w.heap.size,5,none⟩=some _:=(cell_of_row _ _ 5 _ _ _ hbA4).trans rfl
 have b0:w4.cell? ⟨w.heap.size+1,0,none⟩=some _:=(cell_of_row _ _ 0 _ _ _ hbB4).trans rfl
 have b1:w4.cell? ⟨w.heap.size+1,1,none⟩=some _:=(cell_of_row _ _ 1 _ _ _ hbB4).trans rfl
 have b2:w4.cell? ⟨w.heap.size+1,2,none⟩=some _:=(cell_of_row _ _ 2 _ _ _ hbB4).trans rfl
 have b3:w4.cell? ⟨w.heap.size+1,3,none⟩=some _:=(cell_of_row _ _ 3 _ _ _ hbB4).trans rfl
 have b4:w4.cell? ⟨w.heap.size+1,4,none⟩=some _:=(cell_of_row _ _ 4 _ _ _ hbB4).trans rfl
 have b5:w4.cell? ⟨w.heap.size+1,5,none⟩=some _:=(cell_of_row _ _ 5 _ _ _ hbB4).trans rfl
 cases ho:a.owner==b.owner
 case true=>
  clear Hqa Hqb
  go_wp2_with fail
  refine (Haw.out _ A4.out.keep _ A4.out.ok).mono ?_
  rintro e9 w9 ⟨rfl,hb9⟩
  have A9:=Qh (A4.out.quiet hb9)
  go_wp2
  go_ret
  exact ⟨rfl,A9.out.bel⟩
 have Ho:=Qh (show a.owner≠b.owner by simpa using ho)
 obtain ⟨xa,ea,hxa⟩:∃xa ea,chargeP l a=(xa,ea):=⟨_,_,rfl⟩
 obtain ⟨xb,eb,hxb⟩:∃xb eb,chargeP l b=(xb,eb):=⟨_,_,rfl⟩
 have hqa1:=Hqa.out l Hf.out J A4.out.keep _ (Hv.out.mono A4.out.keep) w4 A4.out.ok
 have hqb1:=(fun J (hk:∀b c,I b=some c→J b=some c)=>Hqb.out l Hf.out J hk _ (Hv.out.mono hk))
 rw [hxa] at hqa1
 rw [hxb] at hqb1
 dsimp only at hqa1 hqb1
 have Hqa1:=Qh hqa1
 have Hqb1:=Qh hqb1
 have Hxa:=Qh hxa
 have Hxb:=Qh hxb
 clear hqa1 hqb1 hxa hxb
 go_wp2_with fail
 refine (Hqa1.out).mono ?_
 rintro e5 w5 ⟨v5,J5,rfl,hb5,hx5,hok5,hr5⟩
 obtain ⟨o5,c5,rfl,_,_,_⟩:=id hr5
 have A5:=Qh (A4.out.ext hb5 hx5 hok5)
 have HK5:=Qh (fun b c h=>hx5.keep A4.out.ok (Qn _) b c h)
 have X5:=Qh hr5
 have hbA5:=(hb5.block _ (Array.getElem?_eq_some_iff.1 hbA4).1).trans hbA4
 have hbB5:=(hb5.block _ (Array.getElem?_eq_some_iff.1 hbB4).1).trans hbB4
 clear hb5 hx5 hok5 hr5 A4 hbA4 hbB4 Hqa1 a0 a1 a2 a3 a4 a5 b0 b1 b2 b3 b4 b5
 have b0:w5.cell? ⟨w.heap.size+1,0,none⟩=some _:=(cell_of_row _ _ 0 _ _ _ hbB5).trans rfl
 have b1:w5.cell? ⟨w.heap.size+1,1,none⟩=some _:=(cell_of_row _ _ 1 _ _ _ hbB5).trans rfl
 have b2:w5.cell? ⟨w.heap.size+1,2,none⟩=some _:=(cell_of_row _ _ 2 _ _ _ hbB5).trans rfl
 have b3:w5.cell? ⟨w.heap.size+1,3,none⟩=some _:=(cell_of_row _ _ 3 _ _ _ hbB5).trans rfl
 have b4:w5.cell? ⟨w.heap.size+1,4,none⟩=some _:=(cell_of_row _ _ 4 _ _ _ hbB5).trans rfl
 have b5:w5.cell? ⟨w.heap.size+1,5,none⟩=some _:=(cell_of_row _ _ 5 _ _ _ hbB5).trans rfl
 go_wp2_with fail
 refine (Hqb1.out _ A5.out.keep w5 A5.out.ok).mono ?_
 rintro e6 w6 ⟨v6,J6,rfl,hb6,hx6,hok6,hr6⟩
 obtain ⟨o6,c6,rfl,_,_,_⟩:=id hr6
 have A6:=Qh (A5.out.ext hb6 hx6 hok6)
 have HK6:=Qh (fun b c h=>hx6.keep A5.out.ok (Qn _) b c h)
 have Y6:=Qh hr6
 have X6:=Qh (X5.out.mono HK6.out)
 have hbA6:=(hb6.block _ (Array.getElem?_eq_some_iff.1 hbA5).1).trans hbA5
 have hbB6:=(hb6.block _ (Array.getElem?_eq_some_iff.1 hbB5).1).trans hbB5
 clear hb6 hx6 hok6 hr6 A5 hbA5 hbB5 Hqb1 b0 b1 b2 b3 b4 b5 HK5 HK6 X5
 by_cases ha0:ea=0
 case neg=>
  have i2:(ea==0)=false:=by simpa using ha0
  have i3:(ea != 0)=true:=by simpa using ha0
  clear ha0 Hqa Hqb
  go_wp2_with fail
  refine (Haw.out _ A6.out.keep _ A6.out.ok).mono ?_
  rintro e9 w9 ⟨rfl,hb9⟩
  have A9:=Qh (A6.out.quiet hb9)
  go_wp2
  go_ret
  exact ⟨rfl,A9.out.bel⟩
 subst ha0
 have HA:=Qh (Hf.out.charge Hxa.out)
 have hlx:=(Hf.out.ok.charge Hxa.out).2
 have i2:((xa.length:Int) != (l.length:Int))=false:=by rw [hlx];simp
 have HLX:=Qh hlx
 have hlen:=Hv.out.len_le
 clear hlx
 have Hb0:=Qh (show w6.cell? ⟨w.heap.size,0,none⟩=some (S a.owner) from (cell_of_row _ _ 0 _ _ _ hbA6).trans rfl)
 go_wp2_with fail
 go_loopw [11,59] (fun _ s59 wr=> ∃k:Nat,k≤l.length∧s59= .int .i64 k∧Below w6.heap.size w6 wr) (fun _ i _=>l.length-(intOf i).toNat)
 case atStart=>exact ⟨0,Nat.zero_le _,rfl,Qb _ _⟩
 case round=>
  obtain ⟨k,hk,rfl,hb⟩:=hrel
  have A7:=Qh (A6.out.quiet hb)
  by_cases hlt:k<l.length
  ·obtain ⟨x,b1,off,cap1,hlx,hvv,hX⟩:=Xgb (Hv.out.mono A7.out.keep) A7.out.ok k hlt
   cases hvv
   have hkx:k<xa.length:=by rw [HLX.out];exact hlt
   obtain ⟨y,b2,off2,cap2,hly,hvv,hY⟩:=Xgb X6.out A7.out.ok k hkx
   cases hvv
   have c0:=cell_regrown hX.c0
   have c1:=cell_regrown hX.c1
   have c2:=cell_regrown hX.c2
   have c3:=cell_regrown hX.c3
   have c4:=cell_regrown hX.c4
   have b0:=cell_regrown (Xaa hb Hb0.out)
   have Hxy:=Qh (fun h=>Xpb Hf.out.ok Hxa.out hlt hkx h)
   cases hxo:x.owner==a.owner
   ·have hyx:y=x:=by rw [←hly,←hlx];exact Hxy.out (by rw [hlx];exact hxo)
    subst hyx
    have d0:=cell_regrown hY.c0
    have d1:=cell_regrown hY.c1
    have d2:=cell_regrown hY.c2
    have d3:=cell_regrown hY.c3
    have d4:=cell_regrown hY.c4
    have hq:=Xe7 y
    have j1:(y.owner != a.owner)=true:=by rw [bne,hxo];rfl
    clear hlx hly hX hY Hxy
    go_wp2_with fail
    refine wp_region_quiet_below (by kernel_rfl) (by kernel_rfl) ?_
    repeat (go_big_quiet_step ((fail)))
    refine wpQuiet_nil ?_
    intro w8 hwq
    have hb8:Below (wr).heap.size (wr) w8:=by
     obtain ⟨pq,rfl⟩:=hwq
     exact below_regrown _ _ _
    clear hwq
    go_wp2
    go_roundw
    case rel=>exact ⟨k+1,by omega,by go_num,hb.trans (hb8.mono hb.size)⟩
    case measure=>simp [intOf];omega
   ·have j1:(x.owner != a.owner)=false:=by rw [bne,hxo];rfl
    clear hlx hly hX hY Hxy
    go_wp2_with fail
    refine wp_region_quiet_below (by kernel_rfl) (by kernel_rfl) ?_
    repeat (go_big_quiet_step ((fail)))
    refine wpQuiet_nil ?_
    intro w8 hwq
    have hb8:Below (wr).heap.size (wr) w8:=by
     obtain ⟨pq,rfl⟩:=hwq
     exact below_regrown _ _ _
    clear hwq
    go_wp2
    go_roundw
    case rel=>exact ⟨k+1,by omega,by go_num,hb.trans (hb8.mono hb.size)⟩
    case measure=>simp [intOf];omega
  ·have hbA7:=(hb.block _ (Array.getElem?_eq_some_iff.1 hbA6).1).trans hbA6
   have hbB7:=(hb.block _ (Array.getElem?_eq_some_iff.1 hbB6).1).trans hbB6
   clear hb A6 hbA6 hbB6 Hb0
   by_cases hb0:eb=0
   case neg=>
    have i3:(eb != 0)=true:=by simpa using hb0
    clear hb0 Hqa Hqb
    go_wp2_with fail
    refine (Haw.out _ A7.out.keep _ A7.out.ok).mono ?_
    rintro e9 w9 ⟨rfl,hb9⟩
    have A9:=Qh (A7.out.quiet hb9)
    go_wp2
    go_ret
    exact ⟨rfl,A9.out.bel⟩
   subst hb0
   have HBx:=Qh (Hf.out.charge Hxb.out)
   obtain ⟨t1,t2⟩:=Xm8 Hf.out.ok Ho.out Hxa.out Hxb.out
   have hqu:=Hqb.out xa HA.out J6 A7.out.keep _ X6.out wr A7.out.ok
   have hqv:=(fun J (hk:∀b c,I b=some c→J b=some c) v hv=>Hqa.out xb HBx.out J hk v hv)
   rw [t1] at hqu
   rw [t2] at hqv
   obtain ⟨m,hm⟩:∃m,xa.map (payO b)=m:=⟨_,rfl⟩
   rw [hm] at hqu hqv
   dsimp only at hqu hqv
   have Hqu:=Qh hqu
   have Hqv:=Qh hqv
   clear hqu hqv t1 t2 hm Hqa Hqb Hxa Hxb
   have b0:wr.cell? ⟨w.heap.size+1,0,none⟩=some _:=(cell_of_row _ _ 0 _ _ _ hbB7).trans rfl
   have b1:wr.cell? ⟨w.heap.size+1,1,none⟩=some _:=(cell_of_row _ _ 1 _ _ _ hbB7).trans rfl
   have b2:wr.cell? ⟨w.heap.size+1,2,none⟩=some _:=(cell_of_row _ _ 2 _ _ _ hbB7).trans rfl
   have b3:wr.cell? ⟨w.heap.size+1,3,none⟩=some _:=(cell_of_row _ _ 3 _ _ _ hbB7).trans rfl
   have b4:wr.cell? ⟨w.heap.size+1,4,none⟩=some _:=(cell_of_row _ _ 4 _ _ _ hbB7).trans rfl
   have b5:wr.cell? ⟨w.heap.size+1,5,none⟩=some _:=(cell_of_row _ _ 5 _ _ _ hbB7).trans rfl
   go_wp2_with fail
   refine (Hqu.out).mono ?_
   rintro e8 w8 ⟨v8,J8,rfl,hb8,hx8,hok8,hr8⟩
   obtain ⟨o8,c8,rfl,_,_,_⟩:=id hr8
   have A8:=Qh (A7.out.ext hb8 hx8 hok8)
   have HK8:=Qh (fun b c h=>hx8.keep A7.out.ok (Qn _) b c h)
   have U8:=Qh hr8
   have Y8:=Qh (Y6.out.mono HK8.out)
   have hbA8:=(hb8.block _ (Array.getElem?_eq_some_iff.1 hbA7).1).trans hbA7
   clear hb8 hx8 hok8 hr8 A7 hbA7 hbB7 b0 b1 b2 b3 b4 b5 Hqu
   have a0:w8.cell? ⟨w.heap.size,0,none⟩=some _:=(cell_of_row _ _ 0 _ _ _ hbA8).trans rfl
   have a1:w8.cell? ⟨w.heap.size,1,none⟩=some _:=(cell_of_row _ _ 1 _ _ _ hbA8).trans rfl
   have a2:w8.cell? ⟨w.heap.size,2,none⟩=some _:=(cell_of_row _ _ 2 _ _ _ hbA8).trans rfl
   have a3:w8.cell? ⟨w.heap.size,3,none⟩=some _:=(cell_of_row _ _ 3 _ _ _ hbA8).trans rfl
   have a4:w8.cell? ⟨w.heap.size,4,none⟩=some _:=(cell_of_row _ _ 4 _ _ _ hbA8).trans rfl
   have a5:w8.cell? ⟨w.heap.size,5,none⟩=some _:=(cell_of_row _ _ 5 _ _ _ hbA8).trans rfl
   go_wp2_with fail
   refine (Hqv.out _ A8.out.keep _ Y8.out w8 A8.out.ok).mono ?_
   rintro e9 w9 ⟨v9,J9,rfl,hb9,hx9,hok9,hr9⟩
   obtain ⟨o9,c9,rfl,_,_,_⟩:=id hr9
   have A9:=Qh (A8.out.ext hb9 hx9 hok9)
   have HK9:=Qh (fun b c h=>hx9.keep A8.out.ok (Qn _) b c h)
   have V9:=Qh hr9
   have U9:=Qh (U8.out.mono HK9.out)
   clear hb9 hx9 hok9 hr9 A8 hbA8 a0 a1 a2 a3 a4 a5 Hqv
   go_wp2_with fail
   refine (Xlb J9 _ _ m U9.out V9.out w9 A9.out.ok).mono ?_
   rintro e10 w10 ⟨rfl,hb10⟩
   have A10:=Qh (A9.out.quiet hb10)
   clear hb10 A9
   go_wp2_with fail
   refine (Haw.out _ A10.out.keep _ A10.out.ok).mono ?_
   rintro e11 w11 ⟨rfl,hb11⟩
   have A11:=Qh (A10.out.quiet hb11)
   go_wp2
   go_ret
   exact ⟨rfl,A11.out.bel⟩
end Go.Proofs.YtmdfjnhfhidmhaaGreatDoor
