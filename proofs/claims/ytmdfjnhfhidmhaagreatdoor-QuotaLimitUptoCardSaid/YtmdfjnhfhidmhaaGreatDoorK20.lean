/-
  Walks and laws that the claim's theorem uses: texts CsA CsB CtD SnD, joined; comments out. Conditions: as each theorem says.
-/
import Derived.Test.YtmdfjnhfhidmhaaGreatDoorK19
set_option linter.all false
namespace Go.Proofs.YtmdfjnhfhidmhaaGreatDoor
open Go.RowKit Go.Shelf
attribute [local go_sem] Oper.semAt_some
set_option maxRecDepth 100000 in
set_option maxHeartbeats 1000000 in
theorem Xrl (s:Bytes) (hs:s.length≤4294967280) (w:World):
 Calls Tryz.prog 239 #[S s] w fun e w'=>e= .returned (.int .i64 (firstP s:Nat))∧Below w.heap.size w w':=by
 obtain ⟨N,hN⟩:∃N,firstP s=N:=⟨_,rfl⟩
 have HN:=Qh (show firstG (s.drop 0) 0 0=N from hN)
 rw [hN]
 clear hN
 go_enter Tryz.func239,Tryz.ntmps239
 go_wp2_with fail
 go_loopw [3,8] (fun s3 s8 wr=> ∃k h:Nat,k≤s.length∧h<65536∧s8= .int .i64 k∧s3= .int .i64 h∧firstG (s.drop k) k h=N∧Below w.heap.size w wr) (fun _ i _=>s.length-(intOf i).toNat)
 case atStart=>exact ⟨0,0,Nat.zero_le _,by decide,rfl,rfl,HN.out,Qb _ _⟩
 case round=>
  clear HN
  obtain ⟨k,h,hk,hh,rfl,rfl,hr,hb⟩:=hrel
  have Hr:=Qh hr
  clear hr
  by_cases hlt:k<s.length
  ·have hx:=run_at (P:=Tryz.prog) Tryz.underlying9 s (k:Int) k rfl hlt
   have Hst:=Qh (Xkq hlt Hr.out)
   have hch:(s.getD k 0).toNat<256:=(s.getD k 0).toNat_lt
   have hcl:=Xum h (s.getD k 0)
   have hce:=Xtz h (s.getD k 0)
   generalize hH:ckH h (s.getD k 0)=H at Hst hcl hce
   generalize (s.getD k 0).toNat=c at hx hch hce
   have m1:IntKind.i64.wrap (2*(h:Int))=2*(h:Int):=IntWalk.i64_in _ (by omega)
   have m2:IntKind.i64.wrap ((c:Int)+1)=(c:Int)+1:=IntWalk.i64_in _ (by omega)
   have m3:IntKind.i64.wrap (40503*((c:Int)+1))=40503*((c:Int)+1):=IntWalk.i64_in _ (by omega)
   have m4:IntKind.i64.wrap (2*(h:Int)+40503*((c:Int)+1))=2*(h:Int)+40503*((c:Int)+1):=IntWalk.i64_in _ (by omega)
   have m5:IntKind.i64.wrap ((k:Int)+1)=(k:Int)+1:=IntWalk.i64_in _ (by omega)
   clear hH Hr
   by_cases h96:k+1=96
   ·have Hn:=Qh (show k+1=N by have:=Hst.out;rwa [if_pos (.inl h96)] at this)
    have d1:((k:Int)+1==96)=true:=by simpa using (show (k:Int)+1=96 by omega)
    clear Hst h96
    go_wp2
    go_ret
    exact ⟨Xaj (by rw [←Hn.out];go_num),hb⟩
   have d1:((k:Int)+1==96)=false:=by simpa using (show (k:Int)+1≠96 by omega)
   by_cases h16:16≤k+1
   ·have d2:decide ((16:Int)≤(k:Int)+1)=true:=Qt (by omega)
    by_cases hlh:H<2048
    ·have Hn:=Qh (show k+1=N by have:=Hst.out;rwa [if_pos (.inr ⟨h16,hlh⟩)] at this)
     have d3:decide ((H:Int)<2048)=true:=Qt (by omega)
     clear Hst h96 h16
     go_wp2
     go_ret
     exact ⟨Xaj (by rw [←Hn.out];go_num),hb⟩
    ·have Hn:=Qh (show firstG (s.drop (k+1)) (k+1) H=N by have:=Hst.out;rwa [if_neg (by omega)] at this)
     have d3:decide ((H:Int)<2048)=false:=Qf (by omega)
     clear Hst h96 h16
     go_wp2
     go_roundw
     case rel=>exact ⟨k+1,H,by omega,hcl,by go_num,by rw [hce],Hn.out,hb⟩
     case measure=>simp [intOf];omega
   ·have d2:decide ((16:Int)≤(k:Int)+1)=false:=Qf (by omega)
    have Hn:=Qh (show firstG (s.drop (k+1)) (k+1) H=N by have:=Hst.out;rwa [if_neg (by omega)] at this)
    clear Hst h96 h16
    go_wp2
    go_roundw
    case rel=>exact ⟨k+1,H,by omega,hcl,by go_num,by rw [hce],Hn.out,hb⟩
    case measure=>simp [intOf];omega
  ·have Hn:=Qh (show s.length=N by have:=Hr.out;rw [List.drop_of_length_le (by omega),firstG] at this;omega)
   go_wp2
   go_ret
   exact ⟨Xaj (by rw [←Hn.out]),hb⟩
def boxLen (b:Nat) (w:World):Nat:=match w.cell? ⟨b,0,none⟩ with|some (.string s)=>s.size|_=>0
theorem Xju {b:Nat} {w:World} {s:Bytes} {t:TypeId} (h:w.heap[b]? =some (.cells #[S s] t (0,0))):boxLen b w=s.length:=by
 unfold boxLen
 rw [cell_of_row w b 0 _ _ _ h]
 simp [ByteArray.size]
theorem Xfr {w w':World} (hb:Below w.heap.size w w'):w.grownBy w' none:=⟨hb.os,hb.tape,hb.output,hb.size,fun k hk _=>hb.block k hk⟩
set_option maxRecDepth 100000 in
set_option maxHeartbeats 2000000 in
theorem Xnb (n:Nat) (hn:1≤n) (s:Bytes) (hs:s.length≤4294967280) (Bx:Nat) (w:World) (hB:w.heap[Bx]? =some (.cells #[S s] 9 (0,0))):
 Feeds Fence.wide n Tryz.prog 238 #[.pointer (some ⟨Bx,0,none⟩)] (fun x:Bytes=> #[S x]) Bx (fun W W'=>W'.heap[Bx]? =W.heap[Bx]?) (fun xs=>xs=chunksP s) s.length w:=by
 intro l J W hW hJ hJw hY h0
 have hBW:W.heap[Bx]? =some (.cells #[S s] 9 (0,0)):=(hW.block _ (Array.getElem?_eq_some_iff.1 hB).1).trans hB
 have HJ:=Qh hJ
 have HJw:=Qh hJw
 have HY:=Qh hY
 have H0:=Qh h0
 have HB:=Qh hBW
 clear hJ hJw hY h0 hW hB hBW
 have hcl:=Xeb s
 obtain ⟨N,hN⟩:∃N,chunksP s=N:=⟨_,rfl⟩
 have HN:=Qh (show []++chunksP s=N from hN)
 rw [hN] at hcl ⊢
 clear hN
 refine callsIn_of_wp Tryz.func238 rfl trivial ?_ rfl
 simp only [Tryz.ntmps238,List.size_toArray,List.length_cons,List.length_nil,Nat.reduceAdd,Nat.reduceSub,Array.replicate_succ,Array.replicate_zero,List.push_toArray,List.append_toArray,List.nil_append,List.cons_append]
 gi_wp2
 gi_loopw [3] (fun _ wr=> ∃(r:Bytes) (pre:List Bytes),wr.heap[Bx]? =some (.cells #[S r] 9 (0,0))∧r.length≤s.length∧pre++chunksP r=N∧J pre wr) (fun _ wr=>boxLen Bx wr)
 case atStart=>exact ⟨s,[],HB.out,Qn _,HN.out,H0.out⟩
 case round=>
  clear HB HN H0
  obtain ⟨r,pre,hbox,hrl,hpre,hj⟩:=hrel
  have Hpre:=Qh hpre
  have Hj:=Qh hj
  have Hbox:=Qh hbox
  have hbl:=Xju hbox
  have c0:wr.cell? ⟨Bx,0,none⟩=some (S r):=(cell_of_row wr _ 0 _ _ _ hbox).trans rfl
  clear hpre hj hbox
  by_cases h0:r= []
  ·have Hn:=Qh (show pre=N by have:=Hpre.out;rw [h0,Xnc,List.append_nil] at this;exact this)
   obtain ⟨p1,p2,p3,p4⟩:=Xdx h0
   clear h0
   gi_wp2
   go_end0
   exact ⟨⟨_,rfl⟩,pre,Hn.out,Hj.out⟩
  ·obtain ⟨p1,p2,p3,p4⟩:=Xdr h0
   have hpos:=List.length_pos_iff.2 h0
   have hp:=Xc1 h0
   have hf:=Xjc r
   have Hf:=Qh (Xrl r (by omega) wr)
   have Hn:=Qh (show (pre++ [r.take (firstP r)])++chunksP (r.drop (firstP r))=N by rw [←Hpre.out,Xf0 h0];simp)
   have hpl:pre.length<s.length:=by
    have:=congrArg List.length Hn.out
    simp only [List.length_append,List.length_cons,List.length_nil] at this
    omega
   generalize firstP r=m at Hf Hn hp hf
   have hle:(m:Int)≤(r.length:Int):=by omega
   have hle0:(0:Int)≤(m:Int):=by omega
   clear h0 Hpre
   gi_wp2_with fail
   refine ⟨trivial,(callsIn_wide.2 Hf.out).mono ?_⟩
   rintro e1 w1 ⟨rfl,hb1⟩
   have hj1:=HJ.out _ _ _ none Hj.out (Xfr hb1) (fun r h=>by cases h)
   obtain ⟨fn,tmps,assign,body,hy,hR⟩:=HY.out pre (r.take m) w1 hj1 hpl
   have c1:=Xaa hb1 c0
   have Hbox1:=Qh ((hb1.block _ (Array.getElem?_eq_some_iff.1 Hbox.out).1).trans Hbox.out)
   clear Hf hb1 hj1 Hj Hbox c0
   gi_wp2
   refine hR.mono ?_
   rintro e W3 ⟨rfl,hJ3,hk3⟩
   have HJ3:=Qh hJ3
   have hbox3:=hk3.trans Hbox1.out
   have Hbox3:=Qh hbox3
   have c3:W3.cell? ⟨Bx,0,none⟩=some (S r):=(cell_of_row W3 _ 0 _ _ _ hbox3).trans rfl
   have f3:W3.frozen? ⟨Bx,0,none⟩=false:=frozen_of_row W3 _ 0 _ _ hbox3
   clear hJ3 hk3 hbox3 hy c1
   have htd:List.take (r.length-m) (List.drop m r)=r.drop m:=List.take_of_length_le (by rw [List.length_drop];omega)
   gi_wp2
   go_roundw
   case rel=>exact ⟨r.drop m,_,heap_setCell_same W3 Bx 0 _ _ (S (r.drop m)) Hbox3.out,by simp;omega,Hn.out,HJw.out _ _ _ HJ3.out⟩
   case measure=>rw [Xju (heap_setCell_same W3 Bx 0 _ _ (S (r.drop m)) Hbox3.out),hbl,List.length_drop];omega
set_option maxRecDepth 100000 in
theorem Xpk (s:Bytes) (w:World):Calls Tryz.prog 199 #[S s] w fun e w'=>e= .returned (.func (.func 238) #[] #[.pointer (some ⟨w.heap.size,0,none⟩)])∧w'=w.alloc (.cells #[S s] 9):=by
 go_enter Tryz.func199,Tryz.ntmps199
 go_wp2
 go_ret
 exact ⟨rfl,rfl⟩
def ApnI (Bx b:Nat) (w:World) (pre:List Bytes) (W:World):Prop:=
 ∃v,W.heap[b]? =some (.cells #[v] 126 (0,0))∧OwnS tStr 9 (fun _=>none) W (b+1) v pre∧Below Bx w W
theorem Xr2 {Bx b B:Nat} {w:World} (hw:Bx≤w.heap.size) (hB:Bx≤B):OwnFrom B (ApnI Bx b w):=by
 intro pre W W' row ⟨v,h1,h2,h3⟩ hg hr
 exact ⟨v,Xk6 h1 hg fun r e=>(hr r e).2,h2.turn hg fun r e=>(hr r e).2,Below.turn h3 hw hB hg hr⟩
theorem Xr1 {Bx b:Nat} {w:World} (hne:Bx<b) (pre:List Bytes) (W:World) (u:Value) (h:ApnI Bx b w pre W):ApnI Bx b w pre (W.setCell ⟨Bx,0,none⟩ u):=by
 obtain ⟨v,h1,h2,h3⟩:=h
 refine ⟨v,(heap_setCell_other W ⟨Bx,0,none⟩ b u (by show b≠Bx;omega)).trans h1,h2.stored (fun e=> ?_) 0 u,h3.setCell (p:=⟨Bx,0,none⟩) (Qn _) u⟩
 have:=(Xal h2 e).1
 omega
set_option maxRecDepth 100000 in
set_option maxHeartbeats 2000000 in
theorem Xgh (n:Nat) (hn:2≤n) (s:Bytes) (hs:s.length≤4294967280) (Bx:Nat) (w:World) (hB:w.heap[Bx]? =some (.cells #[S s] 9 (0,0))):
 CallsIn Fence.wide n Tryz.prog 237 #[.slice none 0 0,.func (.func 238) #[] #[.pointer (some ⟨Bx,0,none⟩)]] w fun e w'=> ∃v,e= .returned v∧OwnS tStr 9 (fun _=>none) w' w.heap.size v (chunksP s)∧Below Bx w w':=by
 have hlB:Bx<w.heap.size:=(Array.getElem?_eq_some_iff.1 hB).1
 have hcl:=Xeb s
 refine callsIn_of_wp_marks Tryz.func237 rfl trivial ?_ rfl
 simp only [Tryz.ntmps237,List.size_toArray,List.length_cons,List.length_nil,Nat.reduceAdd,Nat.reduceSub,Array.replicate_succ,Array.replicate_zero,List.push_toArray,List.append_toArray,List.nil_append,List.cons_append]
 gi_wp2
 have hB0:(w.alloc (.cells #[.slice none 0 0] 126)).heap[Bx]? =some (.cells #[S s] 9 (0,0)):=(Below.heap_alloc _ _ _ hlB).trans hB
 have h00:ApnI Bx w.heap.size w [] (w.alloc (.cells #[.slice none 0 0] 126)):=⟨_,heap_alloc_new w _,OwnS.nil _ _ _ _ _,(Qb _ _).alloc (by omega) _⟩
 have hsz:(w.alloc (.cells #[.slice none 0 0] 126)).heap.size=w.heap.size+1:=by simp
 obtain ⟨W0,hW0⟩:∃W0,w.alloc (.cells #[.slice none 0 0] 126)=W0:=⟨_,rfl⟩
 rw [hW0] at hB0 h00 hsz ⊢
 clear hW0
 refine Xnm rfl (by omega) (gf:=238) (lb:= #[.pointer (some ⟨Bx,0,none⟩)]) rfl trivial (enters_of Tryz.func238 (by kernel_rfl) rfl)
  (Xnb (n-1) (by omega) s hs Bx W0 hB0) (by omega) (fun h k=>k.trans h) (fun W l o' hl=>World.putObj_heap_other (by omega)) (fun _=>rfl)
  (ApnI Bx w.heap.size w) (Xr2 (by omega) (by omega)) (fun pre W u h=>Xr1 hlB pre W u h) h00
  (fun x=> { tmps:= #[.slice none 0 0,.func (.func 238) #[] #[.pointer (some ⟨Bx,0,none⟩)],.pointer (some ⟨w.heap.size,0,none⟩),undef,.slice none 0 0,S x,.func (.func 238) #[] #[.pointer (some ⟨Bx,0,none⟩)],S x,undef,undef,undef,undef,undef],defers:= [] })
  ?assign ?body ?done
 case assign=>
  intro l x W K hK
  gi_wp2
  exact hK
 case body=>
  intro l pre x W ⟨v,h1,h2,h3⟩ hpl
  have c0:W.cell? ⟨w.heap.size,0,none⟩=some v:=(cell_of_row W _ 0 _ _ _ h1).trans rfl
  have f0:=frozen_of_row W _ 0 _ _ h1
  have hne:v.ownBlock≠some w.heap.size:=fun e=>by have:=(Xal h2 e).1;omega
  have hlt:w.heap.size<W.heap.size:=(Array.getElem?_eq_some_iff.1 h1).1
  obtain ⟨a0,n0,k0,rfl⟩:=Xcp h2
  have H1:=Qh h1
  have H2:=Qh h2
  have H3:=Qh h3
  clear h1 h2 h3
  gi_wp2_with (gi_at_builtin;go_loud (refine Xa1 (w0:=W) Xk1 rfl _ _ rfl (w.heap.size+1) _ pre rfl H2.out x [S x] _ (by first|rfl|simp [Act.eval]) rfl (by omega) (by omega) (by omega) ?_))
  intro v7 w7 ho7 hg7 hl7
  obtain ⟨g7,n7,k7,rfl⟩:=Xqw ho7
  have co7:=Xaf hg7 hne c0
  have fo7:=Xca hg7 hne c0 f0
  gi_wp2
  have e1:w7.heap[w.heap.size]? =some (.cells #[.slice a0 n0 k0] 126 (0,0)):=(hg7.block _ hlt (fun e=>hne e.symm)).trans H1.out
  refine ⟨(KeepsFrom.own H2.out hg7).trans (KeepsFrom.setCellK w7 ⟨w.heap.size,0,none⟩ _),?_,_,heap_setCell_same w7 w.heap.size 0 _ _ _ e1,ho7.stored (fun e=>by have:=(Xal ho7 e).1;omega) 0 _,(H3.out.grown hg7 (by omega) (fun k hk=>by have:=(Xal H2.out hk).1;omega)).setCell (p:=⟨w.heap.size,0,none⟩) (by show Bx≤w.heap.size;omega) _⟩
  exact (heap_setCell_other w7 ⟨w.heap.size,0,none⟩ Bx _ (by show Bx≠w.heap.size;omega)).trans (hg7.block _ (by omega) (fun e=>by have:=(Xal H2.out e.symm).1;omega))
 case done=>
  rintro D xs W hD rfl ⟨v,h1,h2,h3⟩ hK
  have c0:W.cell? ⟨w.heap.size,0,none⟩=some v:=(cell_of_row W _ 0 _ _ _ h1).trans rfl
  gi_wp2
  refine ⟨by simp,.inl ⟨_,_,rfl,run_takeDeferred hK,?_⟩⟩
  exact ⟨_,results_tmp rfl _ _ _,v,rfl,(h2.turn (grownBy_putObj' _ D _) (fun r e=>by cases e;exact ⟨_,hK,rfl⟩)).lower (by omega),Below.turn h3 (by omega) (Qn _) (grownBy_putObj' _ D _) (fun r e=>by cases e;exact ⟨by omega,_,hK,rfl⟩)⟩
set_option maxRecDepth 100000 in
set_option maxHeartbeats 1000000 in
theorem Xiu (n:Nat) (hn:3≤n) (s:Bytes) (hs:s.length≤4294967280) (Bx:Nat) (w:World) (hB:w.heap[Bx]? =some (.cells #[S s] 9 (0,0))):
 CallsIn Fence.wide n Tryz.prog 198 #[.func (.func 238) #[] #[.pointer (some ⟨Bx,0,none⟩)]] w fun e w'=> ∃v,e= .returned v∧OwnS tStr 9 (fun _=>none) w' w.heap.size v (chunksP s)∧Below Bx w w':=by
 have Ha:=Qh (Xgh (n-1) (by omega) s hs Bx w hB)
 refine callsIn_of_wp Tryz.func198 rfl trivial ?_ rfl
 simp only [Tryz.ntmps198,List.size_toArray,List.length_cons,List.length_nil,Nat.reduceAdd,Nat.reduceSub,Array.replicate_succ,Array.replicate_zero,List.push_toArray,List.append_toArray,List.nil_append,List.cons_append]
 gi_wp2_with fail
 refine ⟨trivial,fun _=>by omega,Ha.out.mono ?_⟩
 rintro e w1 ⟨v,rfl,h1,h2⟩
 gi_wp2
 go_ret
 exact ⟨v,rfl,h1,h2⟩
set_option maxRecDepth 100000 in
set_option maxHeartbeats 1000000 in
theorem Xrk (I:IH) (s:Bytes) (hs:s.length≤4294967280) (w:World):
 Calls Tryz.prog 151 #[S s] w fun e w'=> ∃v',e= .returned v'∧OwnS tStr 9 I w' w.heap.size v' (chunksP s)∧Below w.heap.size w w':=by
 have Hc:=Qh (fun w=>Xpk s w)
 have Hs:=Qh (callsIn_wide.1 (Xiu 3 (Qn _) s hs w.heap.size (w.alloc (.cells #[S s] 9)) (heap_alloc_new w _)))
 go_enter Tryz.func151,Tryz.ntmps151
 go_wp2_with fail
 refine (Hc.out _).mono ?_
 rintro e w1 ⟨rfl,rfl⟩
 go_wp2_with fail
 refine Hs.out.mono ?_
 rintro e w2 ⟨v,rfl,⟨xs,h1,h2⟩,h3⟩
 go_wp2
 go_ret
 exact ⟨v,rfl,OwnS.lower ⟨xs,h1,h2.1,fun i hi=>by obtain ⟨cs,q1,q2⟩:=h2.2 i hi;exact ⟨cs,q1,q2⟩⟩ (by simp),((Qb w.heap.size w).alloc (Qn _) _).trans h3⟩
end Go.Proofs.YtmdfjnhfhidmhaaGreatDoor
namespace Go.Proofs.YtmdfjnhfhidmhaaGreatDoor
open Go.RowKit Go.Shelf
attribute [local go_sem] Oper.semAt_some
set_option maxRecDepth 100000 in
set_option maxHeartbeats 1000000 in
theorem Xqc (s:Bytes) (hs:s.length≤4294967280) (w:World):
 Calls Tryz.prog 236 #[S s] w fun e w'=>e= .returned (.int .i64 (zerosP s:Nat))∧Below w.heap.size w w':=by
 obtain ⟨N,hN⟩:∃N,zerosP s=N:=⟨_,rfl⟩
 have HN:=Qh (show 0+zerosP (s.drop 0)=N by rw [Nat.zero_add];exact hN)
 rw [hN]
 clear hN
 go_enter Tryz.func236,Tryz.ntmps236
 go_wp2_with fail
 go_loopw [3] (fun s3 wr=> ∃n:Nat,n≤s.length∧s3= .int .i64 n∧n+zerosP (s.drop n)=N∧Below w.heap.size w wr) (fun n _=>s.length-(intOf n).toNat)
 case atStart=>exact ⟨0,by omega,rfl,HN.out,Qb _ _⟩
 case round=>
  clear HN
  obtain ⟨n,hn,rfl,hr,hb⟩:=hrel
  have Hr:=Qh hr
  clear hr
  by_cases hlt:n<s.length
  ·have hx:=run_at (P:=Tryz.prog) Tryz.underlying9 s (n:Int) n rfl hlt
   have d1:decide ((n:Int)<(s.length:Int))=true:=Qt (by omega)
   have hst:n+(if s.getD n 0=0 then zerosP (s.drop (n+1))+1 else 0)=N:=by
    rw [←Hr.out,List.drop_eq_getElem_cons hlt,zerosP]
    simp [List.getD,hlt]
   have he:=Xu3 (s.getD n 0) 0 (by decide)
   have he':((((s.getD n 0).toNat:Nat):Int)==0)=(s.getD n 0==0):=he
   have Hst:=Qh hst
   clear hst he
   generalize s.getD n 0=ch at hx Hst he'
   cases hc:(ch==0)
   ·rw [hc] at he'
    have Hn:=Qh (show n=N by have:=Hst.out;rwa [if_neg (by simpa using hc),Nat.add_zero] at this)
    clear hc Hst Hr
    go_wp2
    go_ret
    exact ⟨Xaj (by rw [←Hn.out]),hb⟩
   ·rw [hc] at he'
    have Hn:=Qh (show n+1+zerosP (s.drop (n+1))=N by
     have:=Hst.out
     rw [if_pos (by simpa using hc)] at this
     omega)
    clear hc Hst Hr
    go_wp2
    go_roundw
    case rel=>exact ⟨n+1,by omega,by go_num,Hn.out,hb⟩
    case measure=>simp [intOf];omega
  ·have d1:decide ((n:Int)<(s.length:Int))=false:=Qf (by omega)
   have Hn:=Qh (show n=N by have:=Hr.out;rwa [List.drop_of_length_le (by omega),zerosP,Nat.add_zero] at this)
   clear Hr
   go_wp2
   go_ret
   exact ⟨Xaj (by rw [←Hn.out]),hb⟩
structure Rn where
 d:Bytes
 n:Nat
def Rn.enc (x:Rn):Array Value:= #[S x.d,.int .i64 (x.n:Nat)]
def segO (x:Rn):List Sg:=dataG x.d++if 0<x.n then [⟨(x.n:Nat),[]⟩] else []
def segsO (l:List Rn):List Sg:=l.flatMap segO
theorem Xd3 (l:List Rn) (x:Rn):segsO (l++ [x])=segsO l++segO x:=by simp [segsO]
theorem Xsa:∀ {l:List Rn},(∀x∈l,x.d≠ []∨0<x.n)→l.length≤(segsO l).length
 | [],_=>Qn _
 |x::l,h=>by
  have ih:=Xsa (l:=l) fun y hy=>h y (List.mem_cons_of_mem _ hy)
  have h1:1≤(segO x).length:=by
   unfold segO dataG
   rcases h x (List.mem_cons_self ..) with h1|h1
   ·rw [if_neg h1];simp
   ·rw [if_pos h1];simp
  show l.length+1≤(segO x++segsO l).length
  rw [List.length_append]
  omega
set_option maxRecDepth 100000 in
set_option maxHeartbeats 4000000 in
theorem Xqd (n:Nat) (hn:1≤n) (s:Bytes) (hs:s.length≤4294967280) (Bx:Nat) (w:World) (hB:w.heap[Bx]? =some (.cells #[S s] 9 (0,0))):
 SeqStopsK Fence.wide n Tryz.prog 235 #[.pointer (some ⟨Bx,0,none⟩)] Rn.enc (fun W W'=>W'.heap[Bx]? =W.heap[Bx]?) (fun xs=>segsO xs=segsP s) (fun _=>True) (s.length+1) w:=by
 intro l J Jx W hW hJ _ hY h0
 have hBW:W.heap[Bx]? =some (.cells #[S s] 9 (0,0)):=(hW.block _ (Array.getElem?_eq_some_iff.1 hB).1).trans hB
 have HJ:=Qh hJ
 have HY:=Qh hY
 have H0:=Qh h0
 have HB:=Qh hBW
 clear hJ hY h0 hW hB hBW
 have hcl:=Xk4 s
 obtain ⟨N,hN⟩:∃N,segsP s=N:=⟨_,rfl⟩
 have HN:=Qh (show segsO []++segR ((s.drop 0).take (0-0)) (s.drop 0)=N from hN)
 rw [hN] at hcl ⊢
 clear hN
 refine callsIn_of_wp Tryz.func235 rfl trivial ?_ rfl
 simp only [Tryz.ntmps235,List.size_toArray,List.length_cons,List.length_nil,Nat.reduceAdd,Nat.reduceSub,Array.replicate_succ,Array.replicate_zero,List.push_toArray,List.append_toArray,List.nil_append,List.cons_append]
 gi_wp2
 gi_loopw [3,4] (fun s3 s4 wr=> ∃(f i:Nat) (pre:List Rn),f≤i∧i≤s.length∧s3= .int .i64 f∧s4= .int .i64 i∧wr.heap[Bx]? =some (.cells #[S s] 9 (0,0))∧segsO pre++segR ((s.drop f).take (i-f)) (s.drop i)=N∧(∀x∈pre,x.d≠ []∨0<x.n)∧J pre wr) (fun _ i _=>s.length-(intOf i).toNat)
 case atStart=>exact ⟨0,0,[],Qn _,Nat.zero_le _,rfl,rfl,HB.out,HN.out,fun _ h=>(by cases h),H0.out⟩
 case round=>
  clear HB HN H0
  obtain ⟨f,i,pre,hfi,his,rfl,rfl,hbox,hpre,hne,hj⟩:=hrel
  have Hpre:=Qh hpre
  have Hj:=Qh hj
  have Hbox:=Qh hbox
  have Hne:=Qh hne
  have c0:wr.cell? ⟨Bx,0,none⟩=some (S s):=(cell_of_row wr _ 0 _ _ _ hbox).trans rfl
  have hpl:pre.length≤s.length:=by
   have h1:=Xsa hne
   have h2:=congrArg List.length hpre
   rw [List.length_append] at h2
   omega
  clear hpre hj hbox hne
  have hfs:(f:Int)≤(s.length:Int):=by omega
  have his':(i:Int)≤(s.length:Int):=by omega
  have hfi':(f:Int)≤(i:Int):=by omega
  have hf0:(0:Int)≤(f:Int):=by omega
  have hi0:(0:Int)≤(i:Int):=by omega
  by_cases hlt:i<s.length
  ·have d0:decide ((i:Int)<(s.length:Int))=true:=Qt (by omega)
   have hr0:s.drop i≠ []:=fun e=>by have:=congrArg List.length e;rw [List.length_drop] at this;simp at this;omega
   have hz:=Xez (s.drop i)
   rw [List.length_drop] at hz
   have Hz:=Qh (Xqc (s.drop i) (by rw [List.length_drop];omega) wr)
   have Hst:=Qh (And.intro (fun h=>Xqh (acc:=(s.drop f).take (i-f)) hr0 h) (fun h=>Xqi (acc:=(s.drop f).take (i-f)) hr0 h))
   generalize zerosP (s.drop i)=z at hz Hz Hst
   have htd:List.take (s.length-i) (List.drop i s)=List.drop i s:=List.take_of_length_le (by rw [List.length_drop];omega)
   clear hr0
   gi_wp2_with fail
   refine ⟨trivial,(callsIn_wide.2 Hz.out).mono ?_⟩
   rintro e1 w1 ⟨rfl,hb1⟩
   have hj1:=HJ.out _ _ _ none Hj.out (Xfr hb1) (fun r h=>by cases h)
   have c1:=Xaa hb1 c0
   have Hbox1:=Qh ((hb1.block _ (Array.getElem?_eq_some_iff.1 Hbox.out).1).trans Hbox.out)
   clear Hz hb1 Hj Hbox c0
   by_cases h32:32≤z
   ·have d1:decide ((32:Int)≤(z:Int))=true:=Qt (by omega)
    have m1:IntKind.i64.wrap ((i:Int)+(z:Int))=(i:Int)+(z:Int):=IntWalk.i64_in _ (by omega)
    obtain ⟨fn,tmps,assign,body,hy,hR⟩:=HY.out pre ⟨(s.drop f).take (i-f),z⟩ w1 hj1 (by omega)
    have Hn:=Qh (show segsO (pre++ [⟨(s.drop f).take (i-f),z⟩])++segR ((s.drop (i+z)).take (i+z-(i+z))) (s.drop (i+z))=N by
     rw [←Hpre.out,Hst.out.1 h32,Xd3,segO,if_pos (by dsimp only;omega)]
     simp [List.drop_drop])
    have Hne2:=Qh (show ∀x∈pre++ [(⟨(s.drop f).take (i-f),z⟩:Rn)],x.d≠ []∨0<x.n from fun x hx=>by
     rcases List.mem_append.1 hx with hx|hx
     ·exact Hne.out x hx
     ·rw [List.mem_singleton.1 hx];exact .inr (by dsimp only;omega))
    dsimp only [Rn.enc] at hy
    clear Hst Hpre Hne hj1
    gi_wp2
    refine hR.mono ?_
    rintro e W3 (⟨rfl,hJ3,hk3⟩|⟨rfl,hJx3⟩)
    ·have HJ3:=Qh hJ3
     have Hbox3:=Qh (hk3.trans Hbox1.out)
     clear hJ3 hk3 hy c1
     gi_wp2
     go_roundw
     case rel=>exact ⟨i+z,i+z,_,Qn _,by omega,by go_num,by go_num,Hbox3.out,Hn.out,Hne2.out,HJ3.out⟩
     case measure=>simp [intOf];omega
    ·gi_wp2
     refine bodyPost_ret (results_none rfl _ _ _) rfl ?_
     exact ⟨⟨_,rfl⟩,.inr ⟨_,trivial,hJx3⟩⟩
   ·have d1:decide ((32:Int)≤(z:Int))=false:=Qf (by omega)
    have hmx:max (z:Int) 1=((max z 1:Nat):Int):=by omega
    have hmn:1≤max z 1∧i+max z 1≤s.length:=by omega
    have Hn:=Qh (show segsO pre++segR ((s.drop f).take (i+max z 1-f)) (s.drop (i+max z 1))=N by
     rw [←Hpre.out,Hst.out.2 h32,List.drop_drop]
     congr 2
     rw [show i+max z 1-f=(i-f)+max z 1 by omega,List.take_add,List.drop_drop,show f+(i-f)=i by omega])
    generalize max z 1=m at hmx hmn Hn
    have m1:IntKind.i64.wrap ((i:Int)+(m:Int))=(i:Int)+(m:Int):=IntWalk.i64_in _ (by omega)
    have HJ1:=Qh hj1
    clear Hst Hpre hj1
    gi_wp2
    go_roundw
    case rel=>exact ⟨f,i+m,pre,by omega,by omega,rfl,by go_num,Hbox1.out,Hn.out,Hne.out,HJ1.out⟩
    case measure=>simp [intOf];omega
  ·have d0:decide ((i:Int)<(s.length:Int))=false:=Qf (by omega)
   have hil:i=s.length:=by omega
   have Hn:=Qh (show segsO pre++dataG (s.drop f)=N by
    have:=Hpre.out
    rwa [List.drop_of_length_le (show s.length≤i by omega),Xsn,List.take_of_length_le (by rw [List.length_drop];omega)] at this)
   by_cases hf:f<s.length
   ·have d1:decide ((f:Int)<(s.length:Int))=true:=Qt (by omega)
    obtain ⟨fn,tmps,assign,body,hy,hR⟩:=HY.out pre ⟨s.drop f,0⟩ wr Hj.out (by omega)
    have Hs:=Qh (show segsO (pre++ [⟨s.drop f,0⟩])=N by rw [Xd3,←Hn.out];simp [segO])
    dsimp only [Rn.enc] at hy
    rw [show (((0:Nat):Int))=0 from rfl] at hy
    have htd:List.take (s.length-f) (List.drop f s)=List.drop f s:=List.take_of_length_le (by rw [List.length_drop];omega)
    clear Hpre Hj
    gi_wp2
    refine hR.mono ?_
    rintro e W3 (⟨rfl,hJ3,hk3⟩|⟨rfl,hJx3⟩)
    ·gi_wp2
     go_end0
     exact ⟨⟨_,rfl⟩,.inl ⟨_,Hs.out,hJ3⟩⟩
    ·gi_wp2
     go_end0
     exact ⟨⟨_,rfl⟩,.inr ⟨_,trivial,hJx3⟩⟩
   ·have d1:decide ((f:Int)<(s.length:Int))=false:=Qf (by omega)
    have Hs:=Qh (show segsO pre=N by
     have:=Hn.out
     rw [List.drop_of_length_le (show s.length≤f by omega)] at this
     simpa [dataG] using this)
    clear Hpre
    gi_wp2
    go_end0
    exact ⟨⟨_,rfl⟩,.inl ⟨_,Hs.out,Hj.out⟩⟩
set_option maxRecDepth 100000 in
theorem Xsi (s:Bytes) (w:World):Calls Tryz.prog 197 #[S s] w fun e w'=>e= .returned (.func (.func 235) #[] #[.pointer (some ⟨w.heap.size,0,none⟩)])∧w'=w.alloc (.cells #[S s] 9):=by
 go_enter Tryz.func197,Tryz.ntmps197
 go_wp2
 go_ret
 exact ⟨rfl,rfl⟩
theorem Xpf (d:Bytes):(dataG d).length≤1:=by unfold dataG;split<;>simp
theorem Xih:∀l:List Rn,(segsO l).length≤2*l.length
 | []=>Qn _
 |x::l=>by
  have ih:=Xih l
  have h1:=Xpf x.d
  have h2:(segO x).length≤2:=by
   unfold segO
   rw [List.length_append]
   split<;>simp<;>omega
  show (segO x++segsO l).length≤_
  rw [List.length_append,List.length_cons]
  omega
structure SpL (b:Nat) (w:World) (l:List Sg) (v:Value) (W:World):Prop where
 box:W.heap[b]? =some (.cells #[v] 165 (0,0))
 own:OwnS tSg 168 (fun _=>none) W (b+2) v l
 bel:Below b w W
section
variable {b B:Nat} {w W W':World} {l l':List Sg} {v v':Value}
theorem SpL.c0 (h:SpL b w l v W):W.cell? ⟨b,0,none⟩=some v:=(cell_of_row W _ 0 _ _ _ h.box).trans rfl
theorem SpL.f0 (h:SpL b w l v W):W.frozen? ⟨b,0,none⟩=false:=frozen_of_row W _ 0 _ _ h.box
theorem SpL.ne (h:SpL b w l v W) {k:Nat} (hk:k<b+2):v.ownBlock≠some k:=fun e=>by have:=(Xal h.own e).1;omega
theorem SpL.turn {row:Option Nat} (h:SpL b w l v W) (hb:b≤w.heap.size) (hB:b≤B) (hg:W.grownBy W' row) (hr:∀r,row=some r→B≤r∧ ∃o:Obj,W.heap[r]? =some o∧o.isCells=false):SpL b w l v W':=
 ⟨Xk6 h.box hg fun r e=>(hr r e).2,h.own.turn hg fun r e=>(hr r e).2,Below.turn h.bel hb hB hg hr⟩
theorem SpL.add (h:SpL b w l v W) (hb:b≤w.heap.size) (ho:OwnS tSg 168 (fun _=>none) W' (b+2) v' l') (hg:W.grownBy W' v.ownBlock):
 SpL b w l' v' (W'.setCell ⟨b,0,none⟩ v')∧KeepsFrom B W (W'.setCell ⟨b,0,none⟩ v')∧(b+1<W.heap.size→(W'.setCell ⟨b,0,none⟩ v').heap[b+1]? =W.heap[b+1]?):=by
 have hlt:=(Array.getElem?_eq_some_iff.1 h.box).1
 have hs:=h.bel.size
 have e1:W'.heap[b]? =some (.cells #[v] 165 (0,0)):=(hg.block _ hlt (fun e=>h.ne (by omega) e.symm)).trans h.box
 refine ⟨⟨heap_setCell_same W' b 0 _ _ v' e1,ho.stored (fun e=>by have:=(Xal ho e).1;omega) 0 v',(h.bel.grown hg (by omega) (fun k hk=>by have:=(Xal h.own hk).1;omega)).setCell (p:=⟨b,0,none⟩) (Qn _) v'⟩,(KeepsFrom.own h.own hg).trans (KeepsFrom.setCellK W' ⟨b,0,none⟩ v'),fun hl=> ?_⟩
 exact (heap_setCell_other W' ⟨b,0,none⟩ (b+1) v' (by show b+1≠b;omega)).trans (hg.block _ hl (fun e=>h.ne (by omega) e.symm))
end
def SpI (b:Nat) (w:World) (pre:List Rn) (W:World):Prop:= ∃v,SpL b w (segsO pre) v W∧b+1<W.heap.size
theorem Xsj {b B:Nat} {w:World} (hb:b≤w.heap.size) (hB:b≤B):OwnFrom B (SpI b w):=fun pre W W' row ⟨v,h,hl⟩ hg hr=>⟨v,h.turn hb hB hg hr,Nat.lt_of_lt_of_le hl hg.size⟩
set_option maxRecDepth 100000 in
set_option maxHeartbeats 2000000 in
theorem Xqe (I:IH) (s:Bytes) (hs:s.length≤4294967280) (w:World):
 Calls Tryz.prog 150 #[S s] w fun e w'=> ∃v',e= .returned v'∧OwnS tSg 168 I w' w.heap.size v' (segsP s)∧Below w.heap.size w w':=by
 have H0:=Qh (show SpI w.heap.size w [] ((w.alloc (.cells #[.slice none 0 0] 165)).alloc (.cells #[S s] 9)) from ⟨_,⟨(Below.heap_alloc _ _ _ (by simp)).trans (heap_alloc_new w _),OwnS.nil _ _ _ _ _,((Qb _ _).alloc (Qn _) _).alloc (by simp) _⟩,by simp⟩)
 have HB:=Qh (show ((w.alloc (.cells #[.slice none 0 0] 165)).alloc (.cells #[S s] 9)).heap[w.heap.size+1]? =some (.cells #[S s] 9 (0,0)) by
  have h:=heap_alloc_new (w.alloc (.cells #[.slice none 0 0] 165)) (.cells #[S s] 9)
  simpa using h)
 have hsz:((w.alloc (.cells #[.slice none 0 0] 165)).alloc (.cells #[S s] 9)).heap.size=w.heap.size+2:=by simp
 refine (callsIn_wide (n:=3)).1 ?_
 refine callsIn_of_wp_marks Tryz.func150 rfl trivial ?_ rfl
 simp only [Tryz.ntmps150,List.size_toArray,List.length_cons,List.length_nil,Nat.reduceAdd,Nat.reduceSub,Array.replicate_succ,Array.replicate_zero,List.push_toArray,List.append_toArray,List.nil_append,List.cons_append]
 gi_wp2_with fail
 refine ⟨trivial,(callsIn_wide.2 (Xsi s _)).mono ?_⟩
 rintro e w1 ⟨rfl,rfl⟩
 gi_wp2
 generalize hW0:((w.alloc (.cells #[.slice none 0 0] 165)).alloc (.cells #[S s] 9))=W0 at H0 HB hsz ⊢
 clear hW0
 refine wpIn_rangeFunc_ownG rfl (by decide) (gf:=235) (lb:= #[.pointer (some ⟨w.heap.size+1,0,none⟩)]) rfl trivial (enters_of Tryz.func235 (by kernel_rfl) rfl)
  (Xqd _ (by decide) s hs (w.heap.size+1) W0 HB.out) (fun h k=>k.trans h) (fun W l o o' hl _ _ _=>World.putObj_heap_other (by omega)) (Qb _ _) (fun _=>rfl)
  (SpI w.heap.size w) (fun _ _ _=>False) (Xsj (Qn _) (by omega)) (fun _ _ _ _ _ h _ _=>h) H0.out
  (fun x=> { tmps:= #[S s,undef,.slice none 0 0,.pointer (some ⟨w.heap.size,0,none⟩),S x.d,.int .i64 (x.n:Nat),S s,.func (.func 235) #[] #[.pointer (some ⟨w.heap.size+1,0,none⟩)],S x.d,.int .i64 (x.n:Nat),undef,undef,undef,undef,undef,undef,undef,undef,undef,undef,undef,undef,undef,undef,undef],defers:= [] })
  ?assign ?body ?done ?stop
 case assign=>
  intro l x W K hK
  obtain ⟨d,n⟩:=x
  dsimp only [Rn.enc]
  gi_wp2
  exact hK
 case body=>
  intro l pre x W ⟨v,h,hl⟩ hpl
  have hsl:=Xih pre
  have hso:=Xd3 pre x
  have hbs:=h.bel.size
  obtain ⟨a0,n0,k0,rfl⟩:=Xcp h.own
  have H:=Qh h
  have c0:=h.c0
  clear h
  obtain ⟨d,n⟩:=x
  dsimp only at hso ⊢
  have Hso:=Qh hso
  clear hso
  by_cases hd:d= []
  ·obtain ⟨p1,p2,p3,p4⟩:=Xdx hd
   by_cases hn:0<n
   ·have d1:decide ((0:Int)<(n:Int))=true:=Qt (by omega)
    have d2:decide (0<n)=true:=Qt hn
    have Hl:=Qh (show segsO (pre++ [⟨d,n⟩])=segsO pre++ [⟨(n:Nat),[]⟩] by rw [Hso.out,segO,hd,if_pos hn];rfl)
    clear hd hn
    gi_wp2_with (gi_at_builtin;go_loud (refine Xa1 (w0:=W) Xhf rfl _ _ rfl (w.heap.size+2) _ (segsO pre) rfl H.out.own ⟨(n:Nat),[]⟩ [.int .i64 (n:Nat),S []] _ (by first|rfl|simp [Act.eval]) rfl (by omega) (by omega) (by omega) ?_))
    intro v7 w7 ho7 hg7 hl7
    obtain ⟨g7,n7,k7,rfl⟩:=Xcp ho7
    have cp7:=Xaf hg7 (H.out.ne (k:=w.heap.size) (by omega)) H.out.c0
    have fp7:=Xca hg7 (H.out.ne (k:=w.heap.size) (by omega)) H.out.c0 H.out.f0
    obtain ⟨k1,k2,k3⟩:=H.out.add (B:=W0.heap.size) (Qn _) ho7 hg7
    gi_wp2
    show KeepsFrom W0.heap.size W _∧_=_∧SpI w.heap.size w _ _
    exact ⟨k2,k3 hl,_,by rw [Hl.out];exact k1,by have:=hg7.size;simp;omega⟩
   ·have d1:decide ((0:Int)<(n:Int))=false:=Qf (by omega)
    have d2:decide (0<n)=false:=Qf hn
    have Hl:=Qh (show segsO (pre++ [⟨d,n⟩])=segsO pre by rw [Hso.out,segO,hd,if_neg hn];simp [dataG])
    clear hd hn
    gi_wp2
    show KeepsFrom W0.heap.size W _∧_=_∧SpI w.heap.size w _ _
    exact ⟨KeepsFrom.refl _ _,rfl,_,by rw [Hl.out];exact H.out,hl⟩
  ·obtain ⟨p1,p2,p3,p4⟩:=Xdr hd
   by_cases hn:0<n
   ·have d1:decide ((0:Int)<(n:Int))=true:=Qt (by omega)
    have d2:decide (0<n)=true:=Qt hn
    have Hl:=Qh (show segsO (pre++ [⟨d,n⟩])=segsO pre++ [⟨0,d⟩,⟨(n:Nat),[]⟩] by rw [Hso.out,segO,dataG,if_neg hd,if_pos hn];simp)
    clear hd hn
    gi_wp2_with (gi_at_builtin;go_loud (refine Xa1 (w0:=W) Xhf rfl _ _ rfl (w.heap.size+2) _ (segsO pre) rfl H.out.own ⟨0,d⟩ [.int .i64 0,S d] _ (by first|rfl|simp [Act.eval]) rfl (by omega) (by omega) (by omega) ?_))
    intro v7 w7 ho7 hg7 hl7
    obtain ⟨g7,n7,k7,rfl⟩:=Xcp ho7
    have cp7:=Xaf hg7 (H.out.ne (k:=w.heap.size) (by omega)) H.out.c0
    have fp7:=Xca hg7 (H.out.ne (k:=w.heap.size) (by omega)) H.out.c0 H.out.f0
    obtain ⟨k1,k2,k3⟩:=H.out.add (B:=W0.heap.size) (Qn _) ho7 hg7
    have K1:=Qh k1
    have K2:=Qh k2
    have K3:=Qh (k3 hl)
    have c7:=k1.c0
    have hsz7:W.heap.size≤(w7.setCell ⟨w.heap.size,0,none⟩ (.slice g7 n7 k7)).heap.size:=by have:=hg7.size;simp;omega
    have hl2:(segsO pre++ [(⟨0,d⟩:Sg)]).length≤2*pre.length+1:=by simp;omega
    clear k1 k2 k3 ho7 hg7 hl7 c0
    gi_wp2_with (gi_at_builtin;go_loud (refine Xa1 (w0:=(w7.setCell ⟨w.heap.size,0,none⟩ (.slice g7 n7 k7))) Xhf rfl _ _ rfl (w.heap.size+2) _ (segsO pre++ [⟨0,d⟩]) rfl K1.out.own ⟨(n:Nat),[]⟩ [.int .i64 (n:Nat),S []] _ (by first|rfl|simp [Act.eval]) rfl (by omega) (by omega) (by omega) ?_))
    intro v8 w8 ho8 hg8 hl8
    obtain ⟨g8,n8,k8,rfl⟩:=Xcp ho8
    have cp8:=Xaf hg8 (K1.out.ne (k:=w.heap.size) (by omega)) K1.out.c0
    have fp8:=Xca hg8 (K1.out.ne (k:=w.heap.size) (by omega)) K1.out.c0 K1.out.f0
    obtain ⟨k1,k2,k3⟩:=K1.out.add (B:=W0.heap.size) (Qn _) ho8 hg8
    gi_wp2
    show KeepsFrom W0.heap.size W _∧_=_∧SpI w.heap.size w _ _
    exact ⟨K2.out.trans k2,(k3 (by omega)).trans K3.out,_,by rw [Hl.out];exact k1,by have:=hg8.size;simp;omega⟩
   ·have d1:decide ((0:Int)<(n:Int))=false:=Qf (by omega)
    have d2:decide (0<n)=false:=Qf hn
    have Hl:=Qh (show segsO (pre++ [⟨d,n⟩])=segsO pre++ [⟨0,d⟩] by rw [Hso.out,segO,dataG,if_neg hd,if_neg hn];simp)
    clear hd hn
    gi_wp2_with (gi_at_builtin;go_loud (refine Xa1 (w0:=W) Xhf rfl _ _ rfl (w.heap.size+2) _ (segsO pre) rfl H.out.own ⟨0,d⟩ [.int .i64 0,S d] _ (by first|rfl|simp [Act.eval]) rfl (by omega) (by omega) (by omega) ?_))
    intro v7 w7 ho7 hg7 hl7
    obtain ⟨g7,n7,k7,rfl⟩:=Xcp ho7
    have cp7:=Xaf hg7 (H.out.ne (k:=w.heap.size) (by omega)) H.out.c0
    have fp7:=Xca hg7 (H.out.ne (k:=w.heap.size) (by omega)) H.out.c0 H.out.f0
    obtain ⟨k1,k2,k3⟩:=H.out.add (B:=W0.heap.size) (Qn _) ho7 hg7
    gi_wp2
    show KeepsFrom W0.heap.size W _∧_=_∧SpI w.heap.size w _ _
    exact ⟨k2,k3 hl,_,by rw [Hl.out];exact k1,by have:=hg7.size;simp;omega⟩
 case done=>
  rintro D xs W hD hS ⟨v,h,hl⟩ hK
  have c0:=h.c0
  have hbs:=h.bel.size
  gi_wp2
  refine ⟨by simp,.inl ⟨_,_,rfl,run_takeDeferred hK,?_⟩⟩
  have h2:=h.turn (Qn _) (show w.heap.size≤w.heap.size from Qn _) (grownBy_putObj' W D (.deferred none)) (fun r e=>by cases e;exact ⟨by omega,_,hK,rfl⟩)
  rw [hS] at h2
  obtain ⟨ys,q1,q2⟩:=h2.own
  exact ⟨_,results_tmp rfl _ _ _,v,rfl,OwnS.lower ⟨ys,q1,q2.1,fun i hi=>by obtain ⟨cs,r1,r2⟩:=q2.2 i hi;exact ⟨cs,r1,r2⟩⟩ (by omega),h2.bel⟩
 case stop=>
  rintro D c pre W _ _ h _
  exact h.elim
end Go.Proofs.YtmdfjnhfhidmhaaGreatDoor
namespace Go.Proofs.YtmdfjnhfhidmhaaGreatDoor
open Go.RowKit
theorem Xj5 (b:Nat) (s:Bytes) (hs:s.length≤140737488355328) (w:World) (hc:w.cell? ⟨b,0,none⟩=some (S s)) (hbl:b<w.heap.size):
 Calls Tryz.prog 110 #[.slice (some ⟨b,0,none⟩) 1 1] w fun e w'=>e= .returned (S (sumP s))∧Below w.heap.size w w':=
 Xl4 b 0 1 [s] s (by simp) hs w (fun j x hx=>by match j,hx with|0,hx=>cases hx;exact hc) (by simp) hbl (by simp)
structure PgM (n m B bo:Nat) (C0:Array Value) (w0:World) (J:IH) (W:World) (q:Sto) (lm:List Ck) (l:List Xt) (vk ve:Value) (nn:Nat):Prop where
 ro:W.heap[m]? =some (.cells #[vk,.int .i64 q.ses,S q.str] 40 (0,0))
 r0:W.heap[n]? =some (.cells C0 40 (0,0))
 r1:W.heap[n+1]? =some (.cells #[.slice none 0 0,.int .i64 0,S []] 40 (0,0))
 rm:∃D,W.ownsMap Tryz.prog 9 xElem B nn D∧MapX D lm
 rb:W.heap[bo]? =some (.cells #[ve] 79 (0,0))
 ck:OwnS tCk 156 J W (n+2) vk q.cks
 ox:OwnS tXt 109 J W (n+2) ve l
 ok:Ok J W
 fn:∀b,b=n∨b=n+1∨b=m∨b=B∨b=bo→J b=none
 fk:∀g,vk.ownBlock=some g→J g=none
 fe:∀g,ve.ownBlock=some g→J g=none
 lm':n+2≤m
 lB:n+2≤B
 lo:n+2≤bo
 hB:B<W.heap.size
 nw:n≤w0.heap.size
 bel:Below n w0 W
section
variable {n m B bo:Nat} {C0:Array Value} {w0:World} {J J':IH} {W W':World} {q q':Sto} {lm lm2:List Ck} {l l':List Xt} {vk ve vk' ve':Value} {nn:Nat}
theorem PgM.lt (h:PgM n m B bo C0 w0 J W q lm l vk ve nn):m<W.heap.size∧bo<W.heap.size∧n+1<W.heap.size:=⟨(Array.getElem?_eq_some_iff.1 h.ro).1,(Array.getElem?_eq_some_iff.1 h.rb).1,(Array.getElem?_eq_some_iff.1 h.r1).1⟩
theorem Xdy {W:World} {P:Program} {k:TypeId} {R:Value→Option (DataW Unit × List MemPlace)} {b nn:Nat} {D:DataW Unit} (h:W.ownsMap P k R b nn D) {c:Array Value} {t:TypeId} {f:Nat × Nat} {i:Nat} (hi:W.heap[i]? =some (.cells c t f)):i≠b:=by
 intro e
 subst e
 obtain ⟨es,clock,hb,_⟩:=h
 rw [hi] at hb
 cases hb
theorem PgM.mb (h:PgM n m B bo C0 w0 J W q lm l vk ve nn):m≠bo:=fun e=>by
 have:=h.ro
 rw [e,h.rb] at this
 exact absurd (Obj.cells.inj (Option.some.inj this)).2.1 (by decide)
theorem PgM.mB (h:PgM n m B bo C0 w0 J W q lm l vk ve nn):m≠B∧bo≠B:=by
 obtain ⟨D,h1,_⟩:=h.rm
 exact ⟨Xdy h1 h.ro,Xdy h1 h.rb⟩
theorem PgM.vk_ne (h:PgM n m B bo C0 w0 J W q lm l vk ve nn):vk.ownBlock≠some m∧vk.ownBlock≠some bo∧vk.ownBlock≠some B∧(∀b,b<n+2→vk.ownBlock≠some b):=by
 refine ⟨Xbg h.ck h.ro (by decide),Xbg h.ck h.rb (by decide),fun e=> ?_,fun b hb e=> ?_⟩
 ·obtain ⟨D,h1,_⟩:=h.rm
  obtain ⟨_,cur,hc⟩:=Xal h.ck e
  exact Xdy h1 hc rfl
 ·have:=(Xal h.ck e).1;omega
theorem PgM.ve_ne (h:PgM n m B bo C0 w0 J W q lm l vk ve nn):ve.ownBlock≠some m∧ve.ownBlock≠some bo∧ve.ownBlock≠some B∧(∀b,b<n+2→ve.ownBlock≠some b):=by
 refine ⟨Xbg h.ox h.ro (by decide),Xbg h.ox h.rb (by decide),fun e=> ?_,fun b hb e=> ?_⟩
 ·obtain ⟨D,h1,_⟩:=h.rm
  obtain ⟨_,cur,hc⟩:=Xal h.ox e
  exact Xdy h1 hc rfl
 ·have:=(Xal h.ox e).1;omega
theorem PgM.kv (h:PgM n m B bo C0 w0 J W q lm l vk ve nn):vk.ownBlock=none∨vk.ownBlock≠ve.ownBlock:=by
 cases hk:vk.ownBlock with
 |none=>exact .inl rfl
 |some g=>
  refine .inr fun e=> ?_
  obtain ⟨_,c1,h1⟩:=Xal h.ck hk
  obtain ⟨_,c2,h2⟩:=Xal h.ox e.symm
  rw [h1] at h2
  exact absurd (Obj.cells.inj (Option.some.inj h2)).2.1 (by decide)
theorem PgM.vkv (h:PgM n m B bo C0 w0 J W q lm l vk ve nn):ve.ownBlock=none∨ve.ownBlock≠vk.ownBlock:=by
 rcases h.kv with h1|h1
 ·cases he:ve.ownBlock with
  |none=>exact .inl rfl
  |some g=>exact .inr (by rw [h1];simp)
 ·exact .inr fun e=>h1 e.symm
theorem PgM.ext (h:PgM n m B bo C0 w0 J W q lm l vk ve nn) (hb:Below W.heap.size W W') (hx:Ext W.heap.size J J') (hok:Ok J' W'):PgM n m B bo C0 w0 J' W' q lm l vk ve nn:=by
 obtain ⟨l1,l2,l3⟩:=h.lt
 have hk:=hx.keep h.ok (Qn _)
 have hs:=hb.size
 obtain ⟨D,d1,d2⟩:=h.rm
 refine ⟨(hb.block _ l1).trans h.ro,(hb.block _ (by omega)).trans h.r0,(hb.block _ l3).trans h.r1,⟨D,d1.kept (Xfr hb) (by simp),d2⟩,(hb.block _ l2).trans h.rb,(h.ck.below hb).mono hk,(h.ox.below hb).mono hk,hok,fun b hb'=> ?_,fun g hg=> ?_,fun g hg=> ?_,h.lm',h.lB,h.lo,by have:=h.hB;omega,h.nw,h.bel.trans (hb.mono (by omega))⟩
 ·rw [hx b (by have:=h.hB;have:=h.lm';omega)];exact h.fn b hb'
 ·rw [hx g ((Xal h.ck hg).2.elim fun c hc=>(Array.getElem?_eq_some_iff.1 hc).1)];exact h.fk g hg
 ·rw [hx g ((Xal h.ox hg).2.elim fun c hc=>(Array.getElem?_eq_some_iff.1 hc).1)];exact h.fe g hg
theorem PgM.below (h:PgM n m B bo C0 w0 J W q lm l vk ve nn) (hb:Below W.heap.size W W'):PgM n m B bo C0 w0 J W' q lm l vk ve nn:=h.ext hb (Ext.refl _ _) (h.ok.below (Qn _) hb)
theorem PgM.past (h:PgM n m B bo C0 w0 J W q lm l vk ve nn) (o:Obj):PgM n m B bo C0 w0 J (W.alloc o) q lm l vk ve nn:=h.below ((Qb _ _).alloc (Qn _) o)
theorem PgM.mapped (h:PgM n m B bo C0 w0 J W q lm l vk ve nn) (hg:W.grownBy W' (some B)) {D:DataW Unit} {n2:Nat} (hD:W'.ownsMap Tryz.prog 9 xElem B n2 D) (hM:MapX D lm2):PgM n m B bo C0 w0 J W' q lm2 l vk ve n2:=by
 obtain ⟨l1,l2,l3⟩:=h.lt
 have hb:=h.lB
 have k:∀i,i<W.heap.size→i≠B→W'.heap[i]? =W.heap[i]? :=fun i hi hne=>hg.block i hi (fun e=>hne (by cases e;rfl))
 exact ⟨(k _ l1 h.mB.1).trans h.ro,(k _ (by omega) (by omega)).trans h.r0,(k _ l3 (by omega)).trans h.r1,⟨D,hD,hM⟩,(k _ l2 h.mB.2).trans h.rb,h.ck.kept hg (.inr h.vk_ne.2.2.1),h.ox.kept hg (.inr h.ve_ne.2.2.1),h.ok.grown hg (fun g e=>by cases e;exact h.fn _ (by simp)),h.fn,h.fk,h.fe,h.lm',h.lB,h.lo,by have:=h.hB;have:=hg.size;omega,h.nw,
  h.bel.grown hg (by omega) (fun i e=>by cases e;omega)⟩
theorem PgM.added (h:PgM n m B bo C0 w0 J W q lm l vk ve nn) (ho:OwnS tCk 156 J W' (n+2) vk' q'.cks) (hg:W.grownBy W' vk.ownBlock) (hl:∀g,vk'.ownBlock=some g→vk.ownBlock=some g∨W.heap.size≤g) (e1:q'.ses=q.ses) (e2:q'.str=q.str):
 PgM n m B bo C0 w0 J (W'.setCell ⟨m,0,none⟩ vk') q' lm l vk' ve nn:=by
 obtain ⟨l1,l2,l3⟩:=h.lt
 obtain ⟨k1,k2,k3,k4⟩:=h.vk_ne
 have hm:=h.lm'
 have s:∀i,i≠m→(W'.setCell ⟨m,0,none⟩ vk').heap[i]? =W'.heap[i]? :=fun i hi=>heap_setCell_other W' ⟨m,0,none⟩ i vk' hi
 have k:∀i,i<W.heap.size→vk.ownBlock≠some i→W'.heap[i]? =W.heap[i]? :=fun i hi hne=>hg.block i hi (fun e=>hne e.symm)
 have r1:=(k m l1 k1).trans h.ro
 obtain ⟨D,d1,d2⟩:=h.rm
 have d3:=d1.kept hg (fun e=>k3 e.symm)
 have gs:W'.grownBy (W'.setCell ⟨m,0,none⟩ vk') (some m):=grownBy_setCell' W' m vk'
 refine ⟨by rw [e1,e2];exact heap_setCell_same W' m 0 _ _ vk' r1,(s _ (by omega)).trans ((k _ (by omega) (k4 _ (by omega))).trans h.r0),(s _ (by omega)).trans ((k _ l3 (k4 _ (by omega))).trans h.r1),⟨D,d3.kept gs (fun e=>h.mB.1 (by cases e;rfl)),d2⟩,(s _ h.mb.symm).trans ((k _ l2 k2).trans h.rb),ho.stored (Xbg ho r1 (by decide)) 0 vk',?_,(h.ok.grown hg (fun g e=>h.fk g e)).setCell (a:=⟨m,0,none⟩) (h.fn m (by simp)) vk',h.fn,fun g hk=> ?_,h.fe,h.lm',h.lB,h.lo,by have:=h.hB;have:=hg.size;simp;omega,h.nw,?_⟩
 ·have ox1:=h.ox.kept hg h.vkv
  exact ox1.stored (Xbg ox1 r1 (by decide)) 0 vk'
 ·rcases hl g hk with h1|h1
  ·exact h.fk g h1
  ·exact h.ok.fresh h1
 ·exact (h.bel.grown hg (by omega) (fun i e=>by have:=(Xal h.ck e).1;omega)).setCell (p:=⟨m,0,none⟩) (by show n≤m;omega) vk'
theorem PgM.wrote (h:PgM n m B bo C0 w0 J W q lm l vk ve nn) (b:Bytes):PgM n m B bo C0 w0 J (W.setCell ⟨m,2,none⟩ (S b)) ⟨q.cks,q.ses,b⟩ lm l vk ve nn:=by
 have hm:=h.lm'
 have s:∀i,i≠m→(W.setCell ⟨m,2,none⟩ (S b)).heap[i]? =W.heap[i]? :=fun i hi=>heap_setCell_other W ⟨m,2,none⟩ i (S b) hi
 have gs:W.grownBy (W.setCell ⟨m,2,none⟩ (S b)) (some m):=⟨rfl,rfl,rfl,by simp,fun i _ hk=>s i (fun e=>hk (by rw [e]))⟩
 obtain ⟨D,d1,d2⟩:=h.rm
 exact ⟨heap_setCell_same W m 2 _ _ (S b) h.ro,(s _ (by omega)).trans h.r0,(s _ (by omega)).trans h.r1,⟨D,d1.kept gs (fun e=>h.mB.1 (by cases e;rfl)),d2⟩,(s _ h.mb.symm).trans h.rb,h.ck.stored h.vk_ne.1 2 _,h.ox.stored h.ve_ne.1 2 _,h.ok.setCell (a:=⟨m,2,none⟩) (h.fn m (by simp)) _,h.fn,h.fk,h.fe,h.lm',h.lB,h.lo,by have:=h.hB;simp;omega,h.nw,h.bel.setCell (p:=⟨m,2,none⟩) (by show n≤m;omega) _⟩
theorem PgM.coll (h:PgM n m B bo C0 w0 J W q lm l vk ve nn) (hr:W'.heap[bo]? =some (.cells #[ve'] 79 (0,0))) (ho:OwnS tXt 109 J W' (n+2) ve' l') (hg:Gr2 W W' ve.ownBlock bo) (hl:∀g,ve'.ownBlock=some g→ve.ownBlock=some g∨W.heap.size≤g):PgM n m B bo C0 w0 J W' q lm l' vk ve' nn:=by
 obtain ⟨l1,l2,l3⟩:=h.lt
 obtain ⟨k1,k2,k3,k4⟩:=h.ve_ne
 have hb:=h.lo
 have k:∀i,i<W.heap.size→ve.ownBlock≠some i→i≠bo→W'.heap[i]? =W.heap[i]? :=fun i hi hne hi2=>hg.block i hi (fun e=>hne e.symm) hi2
 obtain ⟨D,⟨es,clock,d1,d2⟩,d3⟩:=h.rm
 refine ⟨(k _ l1 k1 h.mb).trans h.ro,(k _ (by omega) (k4 _ (by omega)) (by omega)).trans h.r0,(k _ l3 (k4 _ (by omega)) (by omega)).trans h.r1,⟨D,⟨es,clock,(k _ h.hB k3 h.mB.2.symm).trans d1,d2⟩,d3⟩,hr,?_,ho,?_,h.fn,h.fk,fun g hk=> ?_,h.lm',h.lB,h.lo,Nat.lt_of_lt_of_le h.hB hg.size,h.nw,hg.below h.bel h.nw (fun g e=>by have:=(Xal h.ox e).1;omega) (by omega)⟩
 ·obtain ⟨xs,x1,x2⟩:=h.ck
  refine ⟨xs,⟨x1.1,?_⟩,x2⟩
  rcases x1.2 with y|⟨g,cap,cur,y1,y2,y3,y4⟩
  ·exact .inl y
  ·have hvg:vk.ownBlock=some g:=by rw [y1];rfl
   refine .inr ⟨g,cap,cur,y1,y2,(k g (Array.getElem?_eq_some_iff.1 y3).1 (fun e=> ?_) (fun e=>h.vk_ne.2.1 (by rw [hvg,e]))).trans y3,y4⟩
   rcases h.kv with z|z
   ·rw [hvg] at z;cases z
   ·exact z (by rw [hvg,e])
 ·refine h.ok.of_block fun b c hc=>k b (h.ok.lt hc) (fun e=> ?_) (fun e=> ?_)
  ·rw [h.fe b e] at hc;cases hc
  ·rw [e,h.fn bo (by simp)] at hc;cases hc
 ·rcases hl g hk with h1|h1
  ·exact h.fe g h1
  ·exact h.ok.fresh h1
end
structure SesD (s:Ses):Prop where
 num:0≤s.num∧s.num≤255
 date:0≤s.date∧s.date≤1000000000
 prev:s.prev.length≤32
 stream:s.stream.length≤14680064
 nents:s.ents.length≤400
 err:∀e∈s.ents,entErr e=0
 wf:∀e∈s.ents,e.Wf
 exts:∀e∈s.ents,e.exts.length≤1000
theorem Xn3 {s:Ses} (h:SesD s):(sesHead s).length≤400:=by
 have h1:=Xbp (n:=s.num) (by have:=h.num;omega) (by have:=h.num;omega)
 have h2:=Xbp (n:=s.date) (by have:=h.date;omega) (by have:=h.date;omega)
 have h3:=Xa0 s.prev (by have:=h.prev;omega)
 have h4:=Xbu s.stream.length (by have:=h.stream;omega)
 have h5:=Xdh s.stream
 have h6:=Xa0 (sumP s.stream) (by omega)
 have h7:=Xbu s.ents.length (by have:=h.nents;omega)
 have h8:=h.prev
 unfold sesHead
 simp only [List.length_append]
 omega
theorem Xqg {s:Ses} (h:SesD s) (k:Nat):(sesK s k).length≤22000000:=by
 have h1:=Xn3 h
 have h2:=Xlp (l:=s.ents.take k) fun e he=>⟨Xex (h.err e (List.mem_of_mem_take he)),h.exts e (List.mem_of_mem_take he)⟩
 have h3:(s.ents.take k).length≤s.ents.length:=by simp;omega
 have h4:=h.nents
 unfold sesK
 rw [List.length_append]
 omega
abbrev sgL (n:Nat) (st p4 sm p6 p7 u:Bytes) (ao:Option Addr) (le co:Nat) (x:Nat × Nat):List (Option Tmp × Value):=
 [(some 20,.pointer (some ⟨n,4,none⟩)),(some 21,S st),(some 22,.int .i64 (st.length:Int)),(some 23,S p4),(some 24,.pointer (some ⟨n,4,none⟩)),(some 25,S st),(some 26,.slice (some ⟨x.1,0,none⟩) 1 1),(some 27,S sm),(some 28,S p6),(some 29,S (p4++p6)),
  (some 30,.pointer (some ⟨n,3,none⟩)),(some 31,.slice ao le co),(some 32,.int .i64 (le:Int)),(some 33,S p7),(some 34,S u),(some 35,.tuple #[.int .i64 (u.length:Int),.nilIface])]
theorem Xai {n:Nat} {st p4 sm p6 p7 u:Bytes} {ao:Option Addr} {le co:Nat} {x:Nat × Nat}:ApartF (sgL n st p4 sm p6 p7 u ao le co x):=by
 unfold ApartF
 simp
set_option maxRecDepth 100000 in
set_option maxHeartbeats 4000000 in
theorem Xnz (I:IH) (hI:Glob I) (s:Ses) (ve:Value) (hve:RdS tEnt I ve s.ents) (hg:SesD s) (w:World) (hw:Ok I w):
 Calls Tryz.prog 104 #[sesV s ve] w fun r w'=>r= .returned (S (sumP (sesText s)))∧Below w.heap.size w w':=by
 obtain ⟨ao,co,rfl,_,_,_⟩:=id hve
 have Hv:=Qh hve
 have Hg:=Qh hg
 have hnm:=hg.num
 have hdt:=hg.date
 have hn30:=hg.nents
 have hst:=hg.stream
 have hpv:=hg.prev
 have Hkl:=Qh (fun k=>Xqg hg k)
 have hm1:=Xbp (n:=s.num) (by omega) (by omega)
 have hm2:=Xbp (n:=s.date) (by omega) (by omega)
 have hm3:=Xa0 s.prev (by omega)
 have hm4:=Xbu s.stream.length (by omega)
 have hsm:=Xdh s.stream
 have hm5:=Xa0 (sumP s.stream) (by omega)
 have hm6:=Xbu s.ents.length (by omega)
 have H1:=Qh (fun w hw=>Xd4 I hI s.num (by omega) (by omega) w hw)
 have H2:=Qh (fun w hw=>Xd4 I hI s.date (by omega) (by omega) w hw)
 have H3:=Qh (fun w hw=>Xbx I hI s.prev (by omega) w hw)
 have H4:=Qh (fun w hw=>Xce I hI s.stream.length (by omega) w hw)
 have H5:=Qh (fun b w hc hb=>Xj5 b s.stream (by omega) w hc hb)
 have H6:=Qh (fun w hw=>Xbx I hI (sumP s.stream) (by omega) w hw)
 have H7:=Qh (fun w hw=>Xce I hI s.ents.length (by omega) w hw)
 have Hh:=Qh (show numP s.num++numP s.date++netP s.prev++(numP s.stream.length++netP (sumP s.stream)++numP s.ents.length)=sesK s 0 by
  rw [sesK,List.take_zero];simp [sesHead])
 clear hve hg hnm hdt
 generalize numP s.num=p1 at hm1 H1 Hh
 generalize numP s.date=p2 at hm2 H2 Hh
 generalize netP s.prev=p3 at hm3 H3 Hh
 generalize numP (s.stream.length:Int)=p4 at hm4 H4 Hh
 generalize netP (sumP s.stream)=p6 at hm5 H6 Hh
 generalize sumP s.stream=sm at hsm hm5 H5 H6
 generalize numP (s.ents.length:Int)=p7 at hm6 H7 Hh
 obtain ⟨T,hT⟩:∃T,sumP (sesText s)=T:=⟨_,rfl⟩
 rw [hT]
 have HT:=Qh hT
 clear hT
 obtain ⟨w1,hW1⟩:∃w1,w.alloc (.cells #[.int .i64 s.num,.int .i64 s.date,S s.prev,.slice ao s.ents.length co,S s.stream,S s.sl] 76)=w1:=⟨_,rfl⟩
 have HB1:=Qh (show SesB w1 w.heap.size s (.slice ao s.ents.length co) by rw [←hW1];exact sesB rfl (Qb _ _))
 have hok1:Ok I w1:=by rw [←hW1];exact hw.alloc _
 have hb1':Below w.heap.size w w1:=by rw [←hW1];exact (Qb w.heap.size w).alloc (Qn _) _
 have hbd1:Lib.IsBuilder 203 5 w1.heap.size w1.heap.size (Lib.byteCells []) (w1.alloc (.cells #[.pointer none,.slice none 0 0] 203)):=Lib.fresh_isBuilder _ _ w1
 have hw1s:w1.heap.size=w.heap.size+1:=by rw [←hW1];simp
 have hsz1:w.heap.size<w1.heap.size:=by omega
 have hok1f:∀b,w1.heap.size≤b→I b=none:=fun b hb=>hok1.fresh hb
 have HB1a:=Qh (SesB.past HB1.out (.cells #[.pointer none,.slice none 0 0] 203))
 have hok1a:Ok I (w1.alloc (.cells #[.pointer none,.slice none 0 0] 203)):=hok1.alloc _
 go_enter Tryz.func104,Tryz.ntmps104
 go_wp2_with fail
 rw [←hw1s]
 clear hw1s
 obtain ⟨c0,c1,c2,c3,c4,c5⟩:=HB1a.out
 have e0:=cell_regrown c0
 have e1:=cell_regrown c1
 have e2:=cell_regrown c2
 clear c0 c1 c2 c3 c4 c5 HB1 hW1
 refine Xba 11 (by kernel_rfl) (by kernel_rfl) ?_
 simp only [List.take_succ_cons,List.take_zero,List.drop_succ_cons,List.drop_zero]
 repeat (go_big_quiet_step ((with_reducible first|exact Calls.regrown_of (H1.out _ (hok1a.below (Qn _) (below_regrown _ _ _)))|exact Calls.regrown_of (H2.out _ (hok1a.below (Qn _) (below_regrown _ _ _)))|exact Calls.regrown_of (H3.out _ (hok1a.below (Qn _) (below_regrown _ _ _))))))
 refine wpQuiet_nil ?_
 intro w2 hwq
 have hb2:Below ((w1.alloc (.cells #[.pointer none,.slice none 0 0] 203))).heap.size ((w1.alloc (.cells #[.pointer none,.slice none 0 0] 203))) w2:=by
  obtain ⟨pq,rfl⟩:=hwq
  exact below_regrown _ _ _
 clear hwq
 have hbd2:=Xau hbd1 hb2
 have hok2:Ok I w2:=hok1a.below (Qn _) hb2
 have HB2:=Qh (HB1a.out.thru hb2)
 have hb2':Below w.heap.size w w2:=(hb1'.alloc (by have:=hb1'.size;omega) (.cells #[.pointer none,.slice none 0 0] 203)).trans (hb2.mono (by simp;omega))
 have hsz2:w1.heap.size≤w2.heap.size:=by have:=hb2.size;simp at this;omega
 clear e0 e1 e2 hb2 HB1a hbd1 hok1 hok1a hb1' H1 H2 H3
 go_wp2_with fail
 refine (Tryz.Builder_WriteString w1.heap.size w1.heap.size _ _ _ hbd2 (by rw [ByteArray.size_mk',List.size_toArray];simp [Lib.byteCells];omega) (by omega)).mono ?_
 rintro e3 w3 ⟨rfl,hbd3,hb3⟩
 have hsz3:=hbd3.lt
 have Hbd3:=Qh (Xb3 (z:=p1++p2++p3) hbd3 (by simp))
 have hok3:Ok I w3:=hok2.of_block fun b c hb=>hb3.block b (Nat.lt_of_not_le fun h=>by rw [hok1f b h] at hb;cases hb)
 have HB3:=Qh (HB2.out.far hb3 hsz1)
 have hb3':=hb2'.trans (hb3.mono (Nat.le_of_lt hsz1))
 clear hbd2 hbd3 hb3 hb2' hok2 HB2 hsz2
 obtain ⟨c0,c1,c2,c3,c4,c5⟩:=HB3.out
 go_wp2_with fail
 obtain ⟨bl,hbl⟩:∃bl,w1.heap.size=bl:=⟨_,rfl⟩
 obtain ⟨u,hu⟩:∃u,p4++(p6++p7)=u:=⟨_,rfl⟩
 have d46:¬9223372036854775807<p4.length+p6.length:=by omega
 have d51:¬9223372036854775807<p4.length+p6.length+p7.length:=by omega
 have hul:u.length=p4.length+p6.length+p7.length:=by rw [←hu];simp;omega
 rw [List.append_assoc p4,hu] at Hh
 rw [hbl] at Hbd3 hok1f hsz1 hsz3 ⊢
 refine Xak (X:=Nat × Nat) (sgL w.heap.size s.stream p4 sm p6 p7 u ao s.ents.length co) (QbC w3 15 6 100 [(0,S s.stream)] [] (fun w8=>Lib.IsBuilder 203 5 bl bl (Lib.byteCells (sesK s 0)) w8∧bl<w8.heap.size∧ ∃w7,Below w3.heap.size w3 w7∧Below bl w7 w8)) (by kernel_rfl) (by kernel_rfl) ?_ ?_ ?_
 ·exact ⟨(0,0),QbC.start _ _⟩
 ·rintro x s' a' w' i hsz hcl ha hC hi
  obtain ⟨hun,oi,hoi,hall⟩:=mem_ready.1 hi
  rcases i with _|_|_|_|_|_|_|_|_|_|_|_|_|_|_|_|i
  rotate_left 16
  ·simp at hoi
  all_goals
   have hoj:=hoi
   simp at hoi
   subst hoi
   simp [Region.binds] at hall
  ·have e1:a'.tmps[1]?.getD undef= .pointer (some ⟨w.heap.size,0,none⟩):=Xbe ha (by simp)
   have hl:s'.getD 15 false=false:=Xae hcl [14,9,3,2,1,0] (by kernel_rfl) (by rfl) hun
   refine wpOp_step hoj (fun K' hK=> ?_)
   rw [if_pos (by rfl)]
   unfold Oper.wp
   simp [go_sem,e1,Oper.upon]
   exact hK _ _ ⟨x,Xac (d:=some 20) (v:=(.pointer (some ⟨w.heap.size,4,none⟩))) Xai ha rfl hun,hC.step hl (Qb _ _) (by decide) (by decide) (by decide)⟩
  ·have e20:a'.tmps[20]?.getD undef= .pointer (some ⟨w.heap.size,4,none⟩):=Xap (i:=0) Xai ha rfl (by first|simpa using hall|simpa using hall.1) (by simp)
   have c4':=Xaa (hC.bel (Xae hcl [14,9,3,2,1] (by kernel_rfl) (by rfl) hun)) c4
   have hl:s'.getD 15 false=false:=Xae hcl [14,9,3,2,1] (by kernel_rfl) (by rfl) hun
   refine wpOp_step hoj (fun K' hK=> ?_)
   rw [if_pos (by rfl)]
   unfold Oper.wp
   simp [go_sem,e20,c4',Oper.upon]
   exact hK _ _ ⟨x,Xac (d:=some 21) (v:=(S s.stream)) Xai ha rfl hun,hC.step hl (Qb _ _) (by decide) (by decide) (by decide)⟩
  ·have e21:a'.tmps[21]?.getD undef=S s.stream:=Xap (i:=1) Xai ha rfl (by first|simpa using hall|simpa using hall.1) (by simp)
   have hl:s'.getD 15 false=false:=Xae hcl [14,9,3,2] (by kernel_rfl) (by rfl) hun
   refine wpOp_step hoj (fun K' hK=> ?_)
   rw [if_pos (by rfl)]
   unfold Oper.wp
   simp [go_sem,e21,Oper.upon]
   exact hK _ _ ⟨x,Xac (d:=some 22) (v:=(.int .i64 (s.stream.length:Int))) Xai ha rfl hun,hC.step hl (Qb _ _) (by decide) (by decide) (by decide)⟩
  ·have e22:a'.tmps[22]?.getD undef= .int .i64 (s.stream.length:Int):=Xap (i:=2) Xai ha rfl (by first|simpa using hall|simpa using hall.1) (by simp)
   have hl:s'.getD 15 false=false:=Xae hcl [14,9,3] (by kernel_rfl) (by rfl) hun
   have hokw:=hok3.below (Qn _) (hC.bel hl)
   refine wpOp_step hoj (fun K' hK=> ?_)
   rw [if_pos (by rfl)]
   unfold Oper.wp
   simp [go_sem,e22,Oper.upon]
   refine (H4.out w' hokw).mono ?_
   rintro r4 w4 ⟨rfl,hb4⟩
   exact hK _ _ ⟨x,Xac (d:=some 23) (v:=(S p4)) Xai ha rfl hun,hC.step hl hb4 (by decide) (by decide) (by decide)⟩
  ·have e1:a'.tmps[1]?.getD undef= .pointer (some ⟨w.heap.size,0,none⟩):=Xbe ha (by simp)
   have hl:s'.getD 15 false=false:=Xae hcl [14,9,8,7,6,5,4] (by kernel_rfl) (by rfl) hun
   refine wpOp_step hoj (fun K' hK=> ?_)
   rw [if_pos (by rfl)]
   unfold Oper.wp
   simp [go_sem,e1,Oper.upon]
   exact hK _ _ ⟨x,Xac (d:=some 24) (v:=(.pointer (some ⟨w.heap.size,4,none⟩))) Xai ha rfl hun,hC.step hl (Qb _ _) (by decide) (by decide) (by decide)⟩
  ·have e24:a'.tmps[24]?.getD undef= .pointer (some ⟨w.heap.size,4,none⟩):=Xap (i:=4) Xai ha rfl (by first|simpa using hall|simpa using hall.1) (by simp)
   have c4':=Xaa (hC.bel (Xae hcl [14,9,8,7,6,5] (by kernel_rfl) (by rfl) hun)) c4
   have hl:s'.getD 15 false=false:=Xae hcl [14,9,8,7,6,5] (by kernel_rfl) (by rfl) hun
   refine wpOp_step hoj (fun K' hK=> ?_)
   rw [if_pos (by rfl)]
   unfold Oper.wp
   simp [go_sem,e24,c4',Oper.upon]
   exact hK _ _ ⟨x,Xac (d:=some 25) (v:=(S s.stream)) Xai ha rfl hun,hC.step hl (Qb _ _) (by decide) (by decide) (by decide)⟩
  ·have e25:a'.tmps[25]?.getD undef=S s.stream:=Xap (i:=5) Xai ha rfl (by first|simpa using hall|simpa using hall.1) (by simp)
   have hl:s'.getD 15 false=false:=Xae hcl [14,9,8,7,6] (by kernel_rfl) (by rfl) hun
   have ha:=ha.trans (Xo5 (L:=sgL w.heap.size s.stream p4 sm p6 p7 u ao s.ents.length co x) (M:=sgL w.heap.size s.stream p4 sm p6 p7 u ao s.ents.length co (w'.heap.size,x.2)) 6 rfl (fun j hne=>by
    rcases j with _|_|_|_|_|_|_|j<;>first|rfl|(exact absurd rfl hne)|simp) hun)
   refine wpOp_step hoj (fun K' hK=> ?_)
   rw [if_pos (by rfl)]
   unfold Oper.wp
   simp [go_sem,e25,Oper.upon]
   refine hK _ _ ⟨(w'.heap.size,x.2),Xac (d:=some 26) (v:= .slice (some ⟨w'.heap.size,0,none⟩) 1 1) Xai ha rfl hun,hC.at1 hl ((Qb _ _).alloc (Qn _) _) (by decide) (by decide) (fun p hp=> ?_)⟩
   simp at hp
   subst hp
   simp
  ·have e26:a'.tmps[26]?.getD undef= .slice (some ⟨x.1,0,none⟩) 1 1:=Xap (i:=6) Xai ha rfl (by first|simpa using hall|simpa using hall.1) (by simp)
   have hcx:=hC.f1 (by first|simpa using hall|simpa using hall.1) (Xae hcl [14,9,8,7] (by kernel_rfl) (by rfl) hun) _ (List.mem_singleton.2 rfl)
   have hl:s'.getD 15 false=false:=Xae hcl [14,9,8,7] (by kernel_rfl) (by rfl) hun
   have hokw:=hok3.below (Qn _) (hC.bel hl)
   refine wpOp_step hoj (fun K' hK=> ?_)
   rw [if_pos (by rfl)]
   unfold Oper.wp
   simp [go_sem,e26,Oper.upon]
   refine (H5.out x.1 w' hcx (block_lt_of_cell hcx)).mono ?_
   rintro r4 w4 ⟨rfl,hb4⟩
   exact hK _ _ ⟨x,Xac (d:=some 27) (v:=(S sm)) Xai ha rfl hun,hC.step hl hb4 (by decide) (by decide) (by decide)⟩
  ·have e27:a'.tmps[27]?.getD undef=S sm:=Xap (i:=7) Xai ha rfl (by first|simpa using hall|simpa using hall.1) (by simp)
   have hl:s'.getD 15 false=false:=Xae hcl [14,9,8] (by kernel_rfl) (by rfl) hun
   have hokw:=hok3.below (Qn _) (hC.bel hl)
   refine wpOp_step hoj (fun K' hK=> ?_)
   rw [if_pos (by rfl)]
   unfold Oper.wp
   simp [go_sem,e27,Oper.upon]
   refine (H6.out w' hokw).mono ?_
   rintro r4 w4 ⟨rfl,hb4⟩
   exact hK _ _ ⟨x,Xac (d:=some 28) (v:=(S p6)) Xai ha rfl hun,hC.step hl hb4 (by decide) (by decide) (by decide)⟩
  ·have e23:a'.tmps[23]?.getD undef=S p4:=Xap (i:=3) Xai ha rfl (by simpa using hall.1) (by simp)
   have e28:a'.tmps[28]?.getD undef=S p6:=Xap (i:=8) Xai ha rfl (by first|simpa using hall.2|simpa using hall.2.1) (by simp)
   have hl:s'.getD 15 false=false:=Xae hcl [14,9] (by kernel_rfl) (by rfl) hun
   refine wpOp_step hoj (fun K' hK=> ?_)
   rw [if_pos (by rfl)]
   unfold Oper.wp
   simp [go_sem,e23,e28,d46,Oper.upon]
   exact hK _ _ ⟨x,Xac (d:=some 29) (v:=(S (p4++p6))) Xai ha rfl hun,hC.step hl (Qb _ _) (by decide) (by decide) (by decide)⟩
  ·have e1:a'.tmps[1]?.getD undef= .pointer (some ⟨w.heap.size,0,none⟩):=Xbe ha (by simp)
   have hl:s'.getD 15 false=false:=Xae hcl [14,13,12,11,10] (by kernel_rfl) (by rfl) hun
   refine wpOp_step hoj (fun K' hK=> ?_)
   rw [if_pos (by rfl)]
   unfold Oper.wp
   simp [go_sem,e1,Oper.upon]
   exact hK _ _ ⟨x,Xac (d:=some 30) (v:=(.pointer (some ⟨w.heap.size,3,none⟩))) Xai ha rfl hun,hC.step hl (Qb _ _) (by decide) (by decide) (by decide)⟩
  ·have e30:a'.tmps[30]?.getD undef= .pointer (some ⟨w.heap.size,3,none⟩):=Xap (i:=10) Xai ha rfl (by first|simpa using hall|simpa using hall.1) (by simp)
   have c3':=Xaa (hC.bel (Xae hcl [14,13,12,11] (by kernel_rfl) (by rfl) hun)) c3
   have hl:s'.getD 15 false=false:=Xae hcl [14,13,12,11] (by kernel_rfl) (by rfl) hun
   refine wpOp_step hoj (fun K' hK=> ?_)
   rw [if_pos (by rfl)]
   unfold Oper.wp
   simp [go_sem,e30,c3',Oper.upon]
   exact hK _ _ ⟨x,Xac (d:=some 31) (v:=(.slice ao s.ents.length co)) Xai ha rfl hun,hC.step hl (Qb _ _) (by decide) (by decide) (by decide)⟩
  ·have e31:a'.tmps[31]?.getD undef= .slice ao s.ents.length co:=Xap (i:=11) Xai ha rfl (by first|simpa using hall|simpa using hall.1) (by simp)
   have hl:s'.getD 15 false=false:=Xae hcl [14,13,12] (by kernel_rfl) (by rfl) hun
   refine wpOp_step hoj (fun K' hK=> ?_)
   rw [if_pos (by rfl)]
   unfold Oper.wp
   simp [go_sem,e31,Oper.upon]
   exact hK _ _ ⟨x,Xac (d:=some 32) (v:=(.int .i64 (s.ents.length:Int))) Xai ha rfl hun,hC.step hl (Qb _ _) (by decide) (by decide) (by decide)⟩
  ·have e32:a'.tmps[32]?.getD undef= .int .i64 (s.ents.length:Int):=Xap (i:=12) Xai ha rfl (by first|simpa using hall|simpa using hall.1) (by simp)
   have hl:s'.getD 15 false=false:=Xae hcl [14,13] (by kernel_rfl) (by rfl) hun
   have hokw:=hok3.below (Qn _) (hC.bel hl)
   refine wpOp_step hoj (fun K' hK=> ?_)
   rw [if_pos (by rfl)]
   unfold Oper.wp
   simp [go_sem,e32,Oper.upon]
   refine (H7.out w' hokw).mono ?_
   rintro r4 w4 ⟨rfl,hb4⟩
   exact hK _ _ ⟨x,Xac (d:=some 33) (v:=(S p7)) Xai ha rfl hun,hC.step hl hb4 (by decide) (by decide) (by decide)⟩
  ·have e29:a'.tmps[29]?.getD undef=S (p4++p6):=Xap (i:=9) Xai ha rfl (by simpa using hall.1) (by simp)
   have e33:a'.tmps[33]?.getD undef=S p7:=Xap (i:=13) Xai ha rfl (by first|simpa using hall.2|simpa using hall.2.1) (by simp)
   have hl:s'.getD 15 false=false:=Xae hcl [14] (by kernel_rfl) (by rfl) hun
   refine wpOp_step hoj (fun K' hK=> ?_)
   rw [if_pos (by rfl)]
   unfold Oper.wp
   simp [go_sem,e29,e33,d51,hu,Oper.upon]
   exact hK _ _ ⟨x,Xac (d:=some 34) (v:=(S u)) Xai ha rfl hun,hC.step hl (Qb _ _) (by decide) (by decide) (by decide)⟩
  ·have e34:a'.tmps[34]?.getD undef=S u:=Xap (i:=14) Xai ha rfl (by first|simpa using hall|simpa using hall.1) (by simp)
   have e3x:a'.tmps[3]?.getD undef= .pointer (some ⟨bl,0,none⟩):=Xbe ha (by simp)
   have hl:s'.getD 15 false=false:=Xam hun
   have hbx:=hC.bel hl
   refine wpOp_step hoj (fun K' hK=> ?_)
   rw [if_pos (by rfl)]
   unfold Oper.wp
   simp [go_sem,e34,e3x,Oper.upon]
   refine (Tryz.Builder_WriteString bl bl _ _ _ (Xau Hbd3.out hbx) (by rw [ByteArray.size_mk',List.size_toArray];simp [Lib.byteCells];omega) (by have:=hbx.size;omega)).mono ?_
   rintro r8 w8 ⟨rfl,hbd8,hb8⟩
   refine hK _ _ ⟨x,Xac (d:=some 35) (v:= .tuple #[.int .i64 (u.length:Int),.nilIface]) Xai ha rfl hun,QbC.end' hun ⟨Xb3 (z:=sesK s 0) hbd8 Hh.out,hbd8.lt,w',hbx,hb8⟩⟩
 ·rintro x s' a' w8 hup ha hC
  obtain ⟨hbd8,hsz8,w7,hbA,hb8⟩:=hC.fin (hup 15 (by decide))
  rw [Xa6 _ _ _ _ (fun i hi=>by rw [Nat.zero_add];exact hup i (by simpa using hi))] at ha
  subst ha
  simp only [fillAll,Act.put]
  subst hbl
  have Hbd8:=Qh hbd8
  have hok8:Ok I w8:=(hok3.below (Qn _) hbA).of_block fun b c hb=>hb8.block b (Nat.lt_of_not_le fun h=>by rw [hok1f b h] at hb;cases hb)
  have HB8:=Qh ((HB3.out.thru hbA).far hb8 hsz1)
  have hb8':=(hb3'.trans (hbA.mono hb3'.size)).trans (hb8.mono (Nat.le_of_lt hsz1))
  clear hC hup hbd8 hb8 hbA d46 d51 hul hu hok3 HB3 hb3' Hbd3 c0 c1 c2 c3 c4 c5 H4 H5 H6 H7 hsz3
  obtain ⟨c0,c1,c2,c3,c4,c5⟩:=HB8.out
  go_wp2_with fail
  clear c0 c1 c2 c3 c4 c5
  go_loopw [39] (fun s39 wr=> ∃k:Nat,k≤s.ents.length∧s39= .int .i64 k∧Lib.IsBuilder 203 5 w1.heap.size w1.heap.size (Lib.byteCells (sesK s k)) wr∧Ok I wr∧SesB wr w.heap.size s (.slice ao s.ents.length co)∧Below w.heap.size w wr∧w1.heap.size<wr.heap.size) (fun i _=>s.ents.length-(intOf i).toNat)
  case atStart=>exact ⟨0,Nat.zero_le _,rfl,Hbd8.out,hok8,HB8.out,hb8',hsz8⟩
  case round=>
   clear Hbd8 HB8 hb8' hok8 hsz8
   obtain ⟨k,hk,rfl,hbd,hwr,hBe,hb,hsz⟩:=hrel
   have Hbd:=Qh hbd
   have HBe:=Qh hBe
   have hkl:=Hkl.out k
   clear hbd hBe
   by_cases hlt:k<s.ents.length
   ·obtain ⟨x,vxa,vxx,b,off,cap',hlx,hvv,⟨x0,x1,x2,x3,x4,x5,x6⟩,h1,h2⟩:=Xd8 Hv.out hwr k hlt
    cases hvv
    obtain ⟨xa,xc,rfl,_,_,_⟩:=id h1
    obtain ⟨xx,xd,rfl,_,_,_⟩:=id h2
    have hmem:x∈s.ents:=by rw [←hlx];exact List.getElem_mem hlt
    have hxw:=Hg.out.wf x hmem
    have hxe:=Hg.out.exts x hmem
    have hx0:=Hg.out.err x hmem
    have hxo:=Xex hx0
    have hxp:=hxo.path
    have hxt:=hxo.target
    have Hst:=Qh (Xn2 hlt hlx)
    have hba:Ok I (wr.alloc (.cells #[.int .i64 x.kind,S x.path,.slice xa x.attrs.length xc,S x.target,.int .i64 x.size,S x.digest,.slice xx x.exts.length xd] 81)):=hwr.alloc _
    have Hen:=Qh (fun w hw=>Xpa I hI x _ _ h1 h2 hxw (by omega) (by omega) hxo hx0 (by omega) w hw)
    have hel:=Xls hxo (show x.exts.length≤1000 by omega)
    clear hlx h1 h2 hmem hx0 hxw hxo
    generalize encE x=y at Hst Hen hel
    generalize sesK s k=u at Hst Hbd hkl
    go_wp2_with fail
    refine (Hen.out _ hba).mono ?_
    rintro e1 w4 ⟨rfl,hb4⟩
    have hbA:Below wr.heap.size wr w4:=((Qb _ _).alloc (Qn _) (.cells #[.int .i64 x.kind,S x.path,.slice xa x.attrs.length xc,S x.target,.int .i64 x.size,S x.digest,.slice xx x.exts.length xd] 81)).trans (hb4.mono (by simp))
    have hbd4:=Xau Hbd.out hbA
    have hok4:Ok I w4:=hwr.below (Qn _) hbA
    have HB4:=Qh (HBe.out.thru hbA)
    have hsz4:=hbA.size
    have hb4':=hb.trans (hbA.mono hb.size)
    clear hb4 hbA Hbd HBe x0 x1 x2 x3 x4 x5 x6 Hen hba
    go_wp2_with fail
    refine (Tryz.Builder_WriteString w1.heap.size w1.heap.size _ _ _ hbd4 (by rw [ByteArray.size_mk',List.size_toArray];simp [Lib.byteCells];omega) (by omega)).mono ?_
    rintro e5 w5 ⟨rfl,hbd5,hb5⟩
    have hsz5:=hbd5.lt
    have Hbd5:=Qh (Xb3 (z:=sesK s (k+1)) hbd5 Hst.out.symm)
    have hok5:Ok I w5:=hok4.of_block fun b c hb=>hb5.block b (Nat.lt_of_not_le fun h=>by rw [hok1f b h] at hb;cases hb)
    have HB5:=Qh (HB4.out.far hb5 hsz1)
    have hb5':=hb4'.trans (hb5.mono (Nat.le_of_lt hsz1))
    clear hbd4 hbd5 hb5 hb4' hok4 HB4
    go_wp2
    go_roundw
    case rel=>exact ⟨k+1,by omega,by go_num,Hbd5.out,hok5,HB5.out,hb5',hsz5⟩
    case measure=>simp [intOf];omega
   ·have Hn:=Qh (Xqf s (k:=k) (by omega))
    rw [Hn.out] at Hbd hkl
    obtain ⟨u,hu⟩:∃u,sesText s=u:=⟨_,rfl⟩
    rw [hu] at Hbd hkl
    have Hu:=Qh (show T=sumP u by rw [←HT.out,hu])
    clear hu Hn
    go_wp2_with fail
    refine (Tryz.Builder_String_any w1.heap.size w1.heap.size _ _ Hbd.out (by omega)).mono ?_
    rintro e3 w5 ⟨rfl,hb5⟩
    have hb5':=hb.trans (hb5.mono (Nat.le_of_lt hsz1))
    have H6:=Qh (Xj5 w5.heap.size u (by omega) (w5.alloc (.cells #[S u] 9)) (by simp) (by simp))
    go_wp2_with fail
    refine H6.out.mono ?_
    rintro e6 w6 ⟨rfl,hb6⟩
    go_wp2
    go_ret
    rw [Hu.out]
    exact ⟨rfl,(hb5'.alloc hb5'.size _).trans (hb6.mono (by have:=hb5'.size;simp;omega))⟩
end Go.Proofs.YtmdfjnhfhidmhaaGreatDoor
