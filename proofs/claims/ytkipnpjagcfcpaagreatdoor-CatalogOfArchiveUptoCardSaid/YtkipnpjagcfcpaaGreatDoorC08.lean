/-
  Walks and laws that the claim's theorem uses: texts CsA CsB CtD SnD SnE SnF CaE SnG CkG, joined; comments out. Conditions: as each theorem says.
-/
import Derived.Test.YtkipnpjagcfcpaaGreatDoorC07
set_option linter.all false
namespace Go.Proofs.YtkipnpjagcfcpaaGreatDoor
open Go.RowKit Go.Shelf
attribute [local go_sem] Oper.semAt_some
set_option maxRecDepth 100000 in
set_option maxHeartbeats 1000000 in
theorem Xtt (s:Bytes) (hs:s.length≤4294967280) (w:World):
 Calls Tryz.prog 291 #[S s] w fun e w'=>e= .returned (.int .i64 (firstP s:Nat))∧Below w.heap.size w w':=by
 obtain ⟨N,hN⟩:∃N,firstP s=N:=⟨_,rfl⟩
 have HN:=Qh (show firstG (s.drop 0) 0 0=N from hN)
 rw [hN]
 clear hN
 go_enter Tryz.func291,Tryz.ntmps291
 go_wp2_with fail
 go_loopw [3,8] (fun s3 s8 wr=> ∃k h:Nat,k≤s.length∧h<65536∧s8= .int .i64 k∧s3= .int .i64 h∧firstG (s.drop k) k h=N∧Below w.heap.size w wr) (fun _ i _=>s.length-(intOf i).toNat)
 case atStart=>exact ⟨0,0,Nat.zero_le _,by decide,rfl,rfl,HN.out,Qb _ _⟩
 case round=>
  clear HN
  obtain ⟨k,h,hk,hh,rfl,rfl,hr,hb⟩:=hrel
  have Hr:=Qh hr
  clear hr
  by_cases hlt:k<s.length
  ·have hx:=run_at (P:=Tryz.prog) Tryz.underlying9 s (k:Int) k rfl hlt
   have Hst:=Qh (Xmq hlt Hr.out)
   have hch:(s.getD k 0).toNat<256:=(s.getD k 0).toNat_lt
   have hcl:=Xwj h (s.getD k 0)
   have hce:=Xvt h (s.getD k 0)
   generalize hH:ckH h (s.getD k 0)=H at Hst hcl hce
   generalize (s.getD k 0).toNat=c at hx hch hce
   have m1:IntKind.i64.wrap (2*(h:Int))=2*(h:Int):=IntWalk.i64_in _ (by omega)
   have m2:IntKind.i64.wrap ((c:Int)+1)=(c:Int)+1:=IntWalk.i64_in _ (by omega)
   have m3:IntKind.i64.wrap (40503*((c:Int)+1))=40503*((c:Int)+1):=IntWalk.i64_in _ (by omega)
   have m4:IntKind.i64.wrap (2*(h:Int)+40503*((c:Int)+1))=2*(h:Int)+40503*((c:Int)+1):=IntWalk.i64_in _ (by omega)
   have m5:IntKind.i64.wrap ((k:Int)+1)=(k:Int)+1:=IntWalk.i64_in _ (by omega)
   clear hH Hr
   by_cases h96:k+1=96
   ·have Hn:=Qh (show k+1=N by have:=Hst.out;rwa [if_pos (.inl h96)] at this)
    have d1:((k:Int)+1==96)=true:=by simpa using (show (k:Int)+1=96 by omega)
    clear Hst h96
    go_wp2
    go_ret
    exact ⟨Xag (by rw [←Hn.out];go_num),hb⟩
   have d1:((k:Int)+1==96)=false:=by simpa using (show (k:Int)+1≠96 by omega)
   by_cases h16:16≤k+1
   ·have d2:decide ((16:Int)≤(k:Int)+1)=true:=Qt (by omega)
    by_cases hlh:H<2048
    ·have Hn:=Qh (show k+1=N by have:=Hst.out;rwa [if_pos (.inr ⟨h16,hlh⟩)] at this)
     have d3:decide ((H:Int)<2048)=true:=Qt (by omega)
     clear Hst h96 h16
     go_wp2
     go_ret
     exact ⟨Xag (by rw [←Hn.out];go_num),hb⟩
    ·have Hn:=Qh (show firstG (s.drop (k+1)) (k+1) H=N by have:=Hst.out;rwa [if_neg (by omega)] at this)
     have d3:decide ((H:Int)<2048)=false:=Qf (by omega)
     clear Hst h96 h16
     go_wp2
     go_roundw
     case rel=>exact ⟨k+1,H,by omega,hcl,by go_num,by rw [hce],Hn.out,hb⟩
     case measure=>simp [intOf];omega
   ·have d2:decide ((16:Int)≤(k:Int)+1)=false:=Qf (by omega)
    have Hn:=Qh (show firstG (s.drop (k+1)) (k+1) H=N by have:=Hst.out;rwa [if_neg (by omega)] at this)
    clear Hst h96 h16
    go_wp2
    go_roundw
    case rel=>exact ⟨k+1,H,by omega,hcl,by go_num,by rw [hce],Hn.out,hb⟩
    case measure=>simp [intOf];omega
  ·have Hn:=Qh (show s.length=N by have:=Hr.out;rw [List.drop_of_length_le (by omega),firstG] at this;omega)
   go_wp2
   go_ret
   exact ⟨Xag (by rw [←Hn.out]),hb⟩
def boxLen (b:Nat) (w:World):Nat:=match w.cell? ⟨b,0,none⟩ with|some (.string s)=>s.size|_=>0
theorem Xlr {b:Nat} {w:World} {s:Bytes} {t:TypeId} (h:w.heap[b]? =some (.cells #[S s] t (0,0))):boxLen b w=s.length:=by
 unfold boxLen
 rw [cell_of_row w b 0 _ _ _ h]
 simp [ByteArray.size]
theorem Xhc {w w':World} (hb:Below w.heap.size w w'):w.grownBy w' none:=⟨hb.os,hb.tape,hb.output,hb.size,fun k hk _=>hb.block k hk⟩
set_option maxRecDepth 100000 in
set_option maxHeartbeats 2000000 in
theorem Xo3 (n:Nat) (hn:1≤n) (s:Bytes) (hs:s.length≤4294967280) (Bx:Nat) (w:World) (hB:w.heap[Bx]? =some (.cells #[S s] 9 (0,0))):
 Feeds Fence.wide n Tryz.prog 290 #[.pointer (some ⟨Bx,0,none⟩)] (fun x:Bytes=> #[S x]) Bx (fun W W'=>W'.heap[Bx]? =W.heap[Bx]?) (fun xs=>xs=chunksP s) s.length w:=by
 intro l J W hW hJ hJw hY h0
 have hBW:W.heap[Bx]? =some (.cells #[S s] 9 (0,0)):=(hW.block _ (Array.getElem?_eq_some_iff.1 hB).1).trans hB
 have HJ:=Qh hJ
 have HJw:=Qh hJw
 have HY:=Qh hY
 have H0:=Qh h0
 have HB:=Qh hBW
 clear hJ hJw hY h0 hW hB hBW
 have hcl:=Xfm s
 obtain ⟨N,hN⟩:∃N,chunksP s=N:=⟨_,rfl⟩
 have HN:=Qh (show []++chunksP s=N from hN)
 rw [hN] at hcl ⊢
 clear hN
 refine callsIn_of_wp Tryz.func290 rfl trivial ?_ rfl
 simp only [Tryz.ntmps290,List.size_toArray,List.length_cons,List.length_nil,Nat.reduceAdd,Nat.reduceSub,Array.replicate_succ,Array.replicate_zero,List.push_toArray,List.append_toArray,List.nil_append,List.cons_append]
 gi_wp2
 gi_loopw [3] (fun _ wr=> ∃(r:Bytes) (pre:List Bytes),wr.heap[Bx]? =some (.cells #[S r] 9 (0,0))∧r.length≤s.length∧pre++chunksP r=N∧J pre wr) (fun _ wr=>boxLen Bx wr)
 case atStart=>exact ⟨s,[],HB.out,Qn _,HN.out,H0.out⟩
 case round=>
  clear HB HN H0
  obtain ⟨r,pre,hbox,hrl,hpre,hj⟩:=hrel
  have Hpre:=Qh hpre
  have Hj:=Qh hj
  have Hbox:=Qh hbox
  have hbl:=Xlr hbox
  have c0:wr.cell? ⟨Bx,0,none⟩=some (S r):=(cell_of_row wr _ 0 _ _ _ hbox).trans rfl
  clear hpre hj hbox
  by_cases h0:r= []
  ·have Hn:=Qh (show pre=N by have:=Hpre.out;rw [h0,Xo4,List.append_nil] at this;exact this)
   obtain ⟨p1,p2,p3,p4⟩:=Xdf h0
   clear h0
   gi_wp2
   go_end0
   exact ⟨⟨_,rfl⟩,pre,Hn.out,Hj.out⟩
  ·obtain ⟨p1,p2,p3,p4⟩:=Xde h0
   have hpos:=List.length_pos_iff.2 h0
   have hp:=Xdz h0
   have hf:=Xk4 r
   have Hf:=Qh (Xtt r (by omega) wr)
   have Hn:=Qh (show (pre++ [r.take (firstP r)])++chunksP (r.drop (firstP r))=N by rw [←Hpre.out,Xhn h0];simp)
   have hpl:pre.length<s.length:=by
    have:=congrArg List.length Hn.out
    simp only [List.length_append,List.length_cons,List.length_nil] at this
    omega
   generalize firstP r=m at Hf Hn hp hf
   have hle:(m:Int)≤(r.length:Int):=by omega
   have hle0:(0:Int)≤(m:Int):=by omega
   clear h0 Hpre
   gi_wp2_with fail
   refine ⟨trivial,(callsIn_wide.2 Hf.out).mono ?_⟩
   rintro e1 w1 ⟨rfl,hb1⟩
   have hj1:=HJ.out _ _ _ none Hj.out (Xhc hb1) (fun r h=>by cases h)
   obtain ⟨fn,tmps,assign,body,hy,hR⟩:=HY.out pre (r.take m) w1 hj1 hpl
   have c1:=Xaa hb1 c0
   have Hbox1:=Qh ((hb1.block _ (Array.getElem?_eq_some_iff.1 Hbox.out).1).trans Hbox.out)
   clear Hf hb1 hj1 Hj Hbox c0
   gi_wp2
   refine hR.mono ?_
   rintro e W3 ⟨rfl,hJ3,hk3⟩
   have HJ3:=Qh hJ3
   have hbox3:=hk3.trans Hbox1.out
   have Hbox3:=Qh hbox3
   have c3:W3.cell? ⟨Bx,0,none⟩=some (S r):=(cell_of_row W3 _ 0 _ _ _ hbox3).trans rfl
   have f3:W3.frozen? ⟨Bx,0,none⟩=false:=frozen_of_row W3 _ 0 _ _ hbox3
   clear hJ3 hk3 hbox3 hy c1
   have htd:List.take (r.length-m) (List.drop m r)=r.drop m:=List.take_of_length_le (by rw [List.length_drop];omega)
   gi_wp2
   go_roundw
   case rel=>exact ⟨r.drop m,_,heap_setCell_same W3 Bx 0 _ _ (S (r.drop m)) Hbox3.out,by simp;omega,Hn.out,HJw.out _ _ _ HJ3.out⟩
   case measure=>rw [Xlr (heap_setCell_same W3 Bx 0 _ _ (S (r.drop m)) Hbox3.out),hbl,List.length_drop];omega
set_option maxRecDepth 100000 in
theorem Xrn (s:Bytes) (w:World):Calls Tryz.prog 258 #[S s] w fun e w'=>e= .returned (.func (.func 290) #[] #[.pointer (some ⟨w.heap.size,0,none⟩)])∧w'=w.alloc (.cells #[S s] 9):=by
 go_enter Tryz.func258,Tryz.ntmps258
 go_wp2
 go_ret
 exact ⟨rfl,rfl⟩
def ApnI (Bx b:Nat) (w:World) (pre:List Bytes) (W:World):Prop:=
 ∃v,W.heap[b]? =some (.cells #[v] 123 (0,0))∧OwnS tStr 9 (fun _=>none) W (b+1) v pre∧Below Bx w W
theorem Xt6 {Bx b B:Nat} {w:World} (hw:Bx≤w.heap.size) (hB:Bx≤B):OwnFrom B (ApnI Bx b w):=by
 intro pre W W' row ⟨v,h1,h2,h3⟩ hg hr
 exact ⟨v,Xm8 h1 hg fun r e=>(hr r e).2,h2.turn hg fun r e=>(hr r e).2,Below.turn h3 hw hB hg hr⟩
theorem Xt5 {Bx b:Nat} {w:World} (hne:Bx<b) (pre:List Bytes) (W:World) (u:Value) (h:ApnI Bx b w pre W):ApnI Bx b w pre (W.setCell ⟨Bx,0,none⟩ u):=by
 obtain ⟨v,h1,h2,h3⟩:=h
 refine ⟨v,(heap_setCell_other W ⟨Bx,0,none⟩ b u (by show b≠Bx;omega)).trans h1,h2.stored (fun e=> ?_) 0 u,h3.setCell (p:=⟨Bx,0,none⟩) (Qn _) u⟩
 have:=(Xar h2 e).1
 omega
set_option maxRecDepth 100000 in
set_option maxHeartbeats 2000000 in
theorem Xh3 (n:Nat) (hn:2≤n) (s:Bytes) (hs:s.length≤4294967280) (Bx:Nat) (w:World) (hB:w.heap[Bx]? =some (.cells #[S s] 9 (0,0))):
 CallsIn Fence.wide n Tryz.prog 289 #[.slice none 0 0,.func (.func 290) #[] #[.pointer (some ⟨Bx,0,none⟩)]] w fun e w'=> ∃v,e= .returned v∧OwnS tStr 9 (fun _=>none) w' w.heap.size v (chunksP s)∧Below Bx w w':=by
 have hlB:Bx<w.heap.size:=(Array.getElem?_eq_some_iff.1 hB).1
 have hcl:=Xfm s
 refine callsIn_of_wp_marks Tryz.func289 rfl trivial ?_ rfl
 simp only [Tryz.ntmps289,List.size_toArray,List.length_cons,List.length_nil,Nat.reduceAdd,Nat.reduceSub,Array.replicate_succ,Array.replicate_zero,List.push_toArray,List.append_toArray,List.nil_append,List.cons_append]
 gi_wp2
 have hB0:(w.alloc (.cells #[.slice none 0 0] 123)).heap[Bx]? =some (.cells #[S s] 9 (0,0)):=(Below.heap_alloc _ _ _ hlB).trans hB
 have h00:ApnI Bx w.heap.size w [] (w.alloc (.cells #[.slice none 0 0] 123)):=⟨_,heap_alloc_new w _,OwnS.nil _ _ _ _ _,(Qb _ _).alloc (by omega) _⟩
 have hsz:(w.alloc (.cells #[.slice none 0 0] 123)).heap.size=w.heap.size+1:=by simp
 obtain ⟨W0,hW0⟩:∃W0,w.alloc (.cells #[.slice none 0 0] 123)=W0:=⟨_,rfl⟩
 rw [hW0] at hB0 h00 hsz ⊢
 clear hW0
 refine Xpe rfl (by omega) (gf:=290) (lb:= #[.pointer (some ⟨Bx,0,none⟩)]) rfl trivial (enters_of Tryz.func290 (by kernel_rfl) rfl)
  (Xo3 (n-1) (by omega) s hs Bx W0 hB0) (by omega) (fun h k=>k.trans h) (fun W l o' hl=>World.putObj_heap_other (by omega)) (fun _=>rfl)
  (ApnI Bx w.heap.size w) (Xt6 (by omega) (by omega)) (fun pre W u h=>Xt5 hlB pre W u h) h00
  (fun x=> { tmps:= #[.slice none 0 0,.func (.func 290) #[] #[.pointer (some ⟨Bx,0,none⟩)],.pointer (some ⟨w.heap.size,0,none⟩),undef,.slice none 0 0,S x,.func (.func 290) #[] #[.pointer (some ⟨Bx,0,none⟩)],S x,undef,undef,undef,undef,undef],defers:= [] })
  ?assign ?body ?done
 case assign=>
  intro l x W K hK
  gi_wp2
  exact hK
 case body=>
  intro l pre x W ⟨v,h1,h2,h3⟩ hpl
  have c0:W.cell? ⟨w.heap.size,0,none⟩=some v:=(cell_of_row W _ 0 _ _ _ h1).trans rfl
  have f0:=frozen_of_row W _ 0 _ _ h1
  have hne:v.ownBlock≠some w.heap.size:=fun e=>by have:=(Xar h2 e).1;omega
  have hlt:w.heap.size<W.heap.size:=(Array.getElem?_eq_some_iff.1 h1).1
  obtain ⟨a0,n0,k0,rfl⟩:=Xdk h2
  have H1:=Qh h1
  have H2:=Qh h2
  have H3:=Qh h3
  clear h1 h2 h3
  gi_wp2_with (gi_at_builtin;go_loud (refine Xbe (w0:=W) Xf2 rfl _ _ rfl (w.heap.size+1) _ pre rfl H2.out x [S x] _ (by first|rfl|simp [Act.eval]) rfl (by omega) (by omega) (by omega) ?_))
  intro v7 w7 ho7 hg7 hl7
  obtain ⟨g7,n7,k7,rfl⟩:=Xs1 ho7
  have co7:=Xah hg7 hne c0
  have fo7:=Xcu hg7 hne c0 f0
  gi_wp2
  have e1:w7.heap[w.heap.size]? =some (.cells #[.slice a0 n0 k0] 123 (0,0)):=(hg7.block _ hlt (fun e=>hne e.symm)).trans H1.out
  refine ⟨(KeepsFrom.own H2.out hg7).trans (KeepsFrom.setCellK w7 ⟨w.heap.size,0,none⟩ _),?_,_,heap_setCell_same w7 w.heap.size 0 _ _ _ e1,ho7.stored (fun e=>by have:=(Xar ho7 e).1;omega) 0 _,(H3.out.grown hg7 (by omega) (fun k hk=>by have:=(Xar H2.out hk).1;omega)).setCell (p:=⟨w.heap.size,0,none⟩) (by show Bx≤w.heap.size;omega) _⟩
  exact (heap_setCell_other w7 ⟨w.heap.size,0,none⟩ Bx _ (by show Bx≠w.heap.size;omega)).trans (hg7.block _ (by omega) (fun e=>by have:=(Xar H2.out e.symm).1;omega))
 case done=>
  rintro D xs W hD rfl ⟨v,h1,h2,h3⟩ hK
  have c0:W.cell? ⟨w.heap.size,0,none⟩=some v:=(cell_of_row W _ 0 _ _ _ h1).trans rfl
  gi_wp2
  refine ⟨by simp,.inl ⟨_,_,rfl,run_takeDeferred hK,?_⟩⟩
  exact ⟨_,results_tmp rfl _ _ _,v,rfl,(h2.turn (grownBy_putObj' _ D _) (fun r e=>by cases e;exact ⟨_,hK,rfl⟩)).lower (by omega),Below.turn h3 (by omega) (Qn _) (grownBy_putObj' _ D _) (fun r e=>by cases e;exact ⟨by omega,_,hK,rfl⟩)⟩
set_option maxRecDepth 100000 in
set_option maxHeartbeats 1000000 in
theorem Xkp (n:Nat) (hn:3≤n) (s:Bytes) (hs:s.length≤4294967280) (Bx:Nat) (w:World) (hB:w.heap[Bx]? =some (.cells #[S s] 9 (0,0))):
 CallsIn Fence.wide n Tryz.prog 257 #[.func (.func 290) #[] #[.pointer (some ⟨Bx,0,none⟩)]] w fun e w'=> ∃v,e= .returned v∧OwnS tStr 9 (fun _=>none) w' w.heap.size v (chunksP s)∧Below Bx w w':=by
 have Ha:=Qh (Xh3 (n-1) (by omega) s hs Bx w hB)
 refine callsIn_of_wp Tryz.func257 rfl trivial ?_ rfl
 simp only [Tryz.ntmps257,List.size_toArray,List.length_cons,List.length_nil,Nat.reduceAdd,Nat.reduceSub,Array.replicate_succ,Array.replicate_zero,List.push_toArray,List.append_toArray,List.nil_append,List.cons_append]
 gi_wp2_with fail
 refine ⟨trivial,fun _=>by omega,Ha.out.mono ?_⟩
 rintro e w1 ⟨v,rfl,h1,h2⟩
 gi_wp2
 go_ret
 exact ⟨v,rfl,h1,h2⟩
set_option maxRecDepth 100000 in
set_option maxHeartbeats 1000000 in
theorem Xts (I:IH) (s:Bytes) (hs:s.length≤4294967280) (w:World):
 Calls Tryz.prog 193 #[S s] w fun e w'=> ∃v',e= .returned v'∧OwnS tStr 9 I w' w.heap.size v' (chunksP s)∧Below w.heap.size w w':=by
 have Hc:=Qh (fun w=>Xrn s w)
 have Hs:=Qh (callsIn_wide.1 (Xkp 3 (Qn _) s hs w.heap.size (w.alloc (.cells #[S s] 9)) (heap_alloc_new w _)))
 go_enter Tryz.func193,Tryz.ntmps193
 go_wp2_with fail
 refine (Hc.out _).mono ?_
 rintro e w1 ⟨rfl,rfl⟩
 go_wp2_with fail
 refine Hs.out.mono ?_
 rintro e w2 ⟨v,rfl,⟨xs,h1,h2⟩,h3⟩
 go_wp2
 go_ret
 exact ⟨v,rfl,OwnS.lower ⟨xs,h1,h2.1,fun i hi=>by obtain ⟨cs,q1,q2⟩:=h2.2 i hi;exact ⟨cs,q1,q2⟩⟩ (by simp),((Qb w.heap.size w).alloc (Qn _) _).trans h3⟩
end Go.Proofs.YtkipnpjagcfcpaaGreatDoor
namespace Go.Proofs.YtkipnpjagcfcpaaGreatDoor
open Go.RowKit Go.Shelf
attribute [local go_sem] Oper.semAt_some
set_option maxRecDepth 100000 in
set_option maxHeartbeats 1000000 in
theorem Xsf (s:Bytes) (hs:s.length≤4294967280) (w:World):
 Calls Tryz.prog 288 #[S s] w fun e w'=>e= .returned (.int .i64 (zerosP s:Nat))∧Below w.heap.size w w':=by
 obtain ⟨N,hN⟩:∃N,zerosP s=N:=⟨_,rfl⟩
 have HN:=Qh (show 0+zerosP (s.drop 0)=N by rw [Nat.zero_add];exact hN)
 rw [hN]
 clear hN
 go_enter Tryz.func288,Tryz.ntmps288
 go_wp2_with fail
 go_loopw [3] (fun s3 wr=> ∃n:Nat,n≤s.length∧s3= .int .i64 n∧n+zerosP (s.drop n)=N∧Below w.heap.size w wr) (fun n _=>s.length-(intOf n).toNat)
 case atStart=>exact ⟨0,by omega,rfl,HN.out,Qb _ _⟩
 case round=>
  clear HN
  obtain ⟨n,hn,rfl,hr,hb⟩:=hrel
  have Hr:=Qh hr
  clear hr
  by_cases hlt:n<s.length
  ·have hx:=run_at (P:=Tryz.prog) Tryz.underlying9 s (n:Int) n rfl hlt
   have d1:decide ((n:Int)<(s.length:Int))=true:=Qt (by omega)
   have hst:n+(if s.getD n 0=0 then zerosP (s.drop (n+1))+1 else 0)=N:=by
    rw [←Hr.out,List.drop_eq_getElem_cons hlt,zerosP]
    simp [List.getD,hlt]
   have he:=Xu5 (s.getD n 0) 0 (by decide)
   have he':((((s.getD n 0).toNat:Nat):Int)==0)=(s.getD n 0==0):=he
   have Hst:=Qh hst
   clear hst he
   generalize s.getD n 0=ch at hx Hst he'
   cases hc:(ch==0)
   ·rw [hc] at he'
    have Hn:=Qh (show n=N by have:=Hst.out;rwa [if_neg (by simpa using hc),Nat.add_zero] at this)
    clear hc Hst Hr
    go_wp2
    go_ret
    exact ⟨Xag (by rw [←Hn.out]),hb⟩
   ·rw [hc] at he'
    have Hn:=Qh (show n+1+zerosP (s.drop (n+1))=N by
     have:=Hst.out
     rw [if_pos (by simpa using hc)] at this
     omega)
    clear hc Hst Hr
    go_wp2
    go_roundw
    case rel=>exact ⟨n+1,by omega,by go_num,Hn.out,hb⟩
    case measure=>simp [intOf];omega
  ·have d1:decide ((n:Int)<(s.length:Int))=false:=Qf (by omega)
   have Hn:=Qh (show n=N by have:=Hr.out;rwa [List.drop_of_length_le (by omega),zerosP,Nat.add_zero] at this)
   clear Hr
   go_wp2
   go_ret
   exact ⟨Xag (by rw [←Hn.out]),hb⟩
structure Rn where
 d:Bytes
 n:Nat
def Rn.enc (x:Rn):Array Value:= #[S x.d,.int .i64 (x.n:Nat)]
def segO (x:Rn):List Sg:=dataG x.d++if 0<x.n then [⟨(x.n:Nat),[]⟩] else []
def segsO (l:List Rn):List Sg:=l.flatMap segO
theorem Xfc (l:List Rn) (x:Rn):segsO (l++ [x])=segsO l++segO x:=by simp [segsO]
theorem Xt9:∀ {l:List Rn},(∀x∈l,x.d≠ []∨0<x.n)→l.length≤(segsO l).length
 | [],_=>Qn _
 |x::l,h=>by
  have ih:=Xt9 (l:=l) fun y hy=>h y (List.mem_cons_of_mem _ hy)
  have h1:1≤(segO x).length:=by
   unfold segO dataG
   rcases h x (List.mem_cons_self ..) with h1|h1
   ·rw [if_neg h1];simp
   ·rw [if_pos h1];simp
  show l.length+1≤(segO x++segsO l).length
  rw [List.length_append]
  omega
set_option maxRecDepth 100000 in
set_option maxHeartbeats 4000000 in
theorem Xsg (n:Nat) (hn:1≤n) (s:Bytes) (hs:s.length≤4294967280) (Bx:Nat) (w:World) (hB:w.heap[Bx]? =some (.cells #[S s] 9 (0,0))):
 SeqStopsK Fence.wide n Tryz.prog 287 #[.pointer (some ⟨Bx,0,none⟩)] Rn.enc (fun W W'=>W'.heap[Bx]? =W.heap[Bx]?) (fun xs=>segsO xs=segsP s) (fun _=>True) (s.length+1) w:=by
 intro l J Jx W hW hJ _ hY h0
 have hBW:W.heap[Bx]? =some (.cells #[S s] 9 (0,0)):=(hW.block _ (Array.getElem?_eq_some_iff.1 hB).1).trans hB
 have HJ:=Qh hJ
 have HY:=Qh hY
 have H0:=Qh h0
 have HB:=Qh hBW
 clear hJ hY h0 hW hB hBW
 have hcl:=Xm5 s
 obtain ⟨N,hN⟩:∃N,segsP s=N:=⟨_,rfl⟩
 have HN:=Qh (show segsO []++segR ((s.drop 0).take (0-0)) (s.drop 0)=N from hN)
 rw [hN] at hcl ⊢
 clear hN
 refine callsIn_of_wp Tryz.func287 rfl trivial ?_ rfl
 simp only [Tryz.ntmps287,List.size_toArray,List.length_cons,List.length_nil,Nat.reduceAdd,Nat.reduceSub,Array.replicate_succ,Array.replicate_zero,List.push_toArray,List.append_toArray,List.nil_append,List.cons_append]
 gi_wp2
 gi_loopw [3,4] (fun s3 s4 wr=> ∃(f i:Nat) (pre:List Rn),f≤i∧i≤s.length∧s3= .int .i64 f∧s4= .int .i64 i∧wr.heap[Bx]? =some (.cells #[S s] 9 (0,0))∧segsO pre++segR ((s.drop f).take (i-f)) (s.drop i)=N∧(∀x∈pre,x.d≠ []∨0<x.n)∧J pre wr) (fun _ i _=>s.length-(intOf i).toNat)
 case atStart=>exact ⟨0,0,[],Qn _,Nat.zero_le _,rfl,rfl,HB.out,HN.out,fun _ h=>(by cases h),H0.out⟩
 case round=>
  clear HB HN H0
  obtain ⟨f,i,pre,hfi,his,rfl,rfl,hbox,hpre,hne,hj⟩:=hrel
  have Hpre:=Qh hpre
  have Hj:=Qh hj
  have Hbox:=Qh hbox
  have Hne:=Qh hne
  have c0:wr.cell? ⟨Bx,0,none⟩=some (S s):=(cell_of_row wr _ 0 _ _ _ hbox).trans rfl
  have hpl:pre.length≤s.length:=by
   have h1:=Xt9 hne
   have h2:=congrArg List.length hpre
   rw [List.length_append] at h2
   omega
  clear hpre hj hbox hne
  have hfs:(f:Int)≤(s.length:Int):=by omega
  have his':(i:Int)≤(s.length:Int):=by omega
  have hfi':(f:Int)≤(i:Int):=by omega
  have hf0:(0:Int)≤(f:Int):=by omega
  have hi0:(0:Int)≤(i:Int):=by omega
  by_cases hlt:i<s.length
  ·have d0:decide ((i:Int)<(s.length:Int))=true:=Qt (by omega)
   have hr0:s.drop i≠ []:=fun e=>by have:=congrArg List.length e;rw [List.length_drop] at this;simp at this;omega
   have hz:=Xga (s.drop i)
   rw [List.length_drop] at hz
   have Hz:=Qh (Xsf (s.drop i) (by rw [List.length_drop];omega) wr)
   have Hst:=Qh (And.intro (fun h=>Xsn (acc:=(s.drop f).take (i-f)) hr0 h) (fun h=>Xso (acc:=(s.drop f).take (i-f)) hr0 h))
   generalize zerosP (s.drop i)=z at hz Hz Hst
   have htd:List.take (s.length-i) (List.drop i s)=List.drop i s:=List.take_of_length_le (by rw [List.length_drop];omega)
   clear hr0
   gi_wp2_with fail
   refine ⟨trivial,(callsIn_wide.2 Hz.out).mono ?_⟩
   rintro e1 w1 ⟨rfl,hb1⟩
   have hj1:=HJ.out _ _ _ none Hj.out (Xhc hb1) (fun r h=>by cases h)
   have c1:=Xaa hb1 c0
   have Hbox1:=Qh ((hb1.block _ (Array.getElem?_eq_some_iff.1 Hbox.out).1).trans Hbox.out)
   clear Hz hb1 Hj Hbox c0
   by_cases h32:32≤z
   ·have d1:decide ((32:Int)≤(z:Int))=true:=Qt (by omega)
    have m1:IntKind.i64.wrap ((i:Int)+(z:Int))=(i:Int)+(z:Int):=IntWalk.i64_in _ (by omega)
    obtain ⟨fn,tmps,assign,body,hy,hR⟩:=HY.out pre ⟨(s.drop f).take (i-f),z⟩ w1 hj1 (by omega)
    have Hn:=Qh (show segsO (pre++ [⟨(s.drop f).take (i-f),z⟩])++segR ((s.drop (i+z)).take (i+z-(i+z))) (s.drop (i+z))=N by
     rw [←Hpre.out,Hst.out.1 h32,Xfc,segO,if_pos (by dsimp only;omega)]
     simp [List.drop_drop])
    have Hne2:=Qh (show ∀x∈pre++ [(⟨(s.drop f).take (i-f),z⟩:Rn)],x.d≠ []∨0<x.n from fun x hx=>by
     rcases List.mem_append.1 hx with hx|hx
     ·exact Hne.out x hx
     ·rw [List.mem_singleton.1 hx];exact .inr (by dsimp only;omega))
    dsimp only [Rn.enc] at hy
    clear Hst Hpre Hne hj1
    gi_wp2
    refine hR.mono ?_
    rintro e W3 (⟨rfl,hJ3,hk3⟩|⟨rfl,hJx3⟩)
    ·have HJ3:=Qh hJ3
     have Hbox3:=Qh (hk3.trans Hbox1.out)
     clear hJ3 hk3 hy c1
     gi_wp2
     go_roundw
     case rel=>exact ⟨i+z,i+z,_,Qn _,by omega,by go_num,by go_num,Hbox3.out,Hn.out,Hne2.out,HJ3.out⟩
     case measure=>simp [intOf];omega
    ·gi_wp2
     refine bodyPost_ret (results_none rfl _ _ _) rfl ?_
     exact ⟨⟨_,rfl⟩,.inr ⟨_,trivial,hJx3⟩⟩
   ·have d1:decide ((32:Int)≤(z:Int))=false:=Qf (by omega)
    have hmx:max (z:Int) 1=((max z 1:Nat):Int):=by omega
    have hmn:1≤max z 1∧i+max z 1≤s.length:=by omega
    have Hn:=Qh (show segsO pre++segR ((s.drop f).take (i+max z 1-f)) (s.drop (i+max z 1))=N by
     rw [←Hpre.out,Hst.out.2 h32,List.drop_drop]
     congr 2
     rw [show i+max z 1-f=(i-f)+max z 1 by omega,List.take_add,List.drop_drop,show f+(i-f)=i by omega])
    generalize max z 1=m at hmx hmn Hn
    have m1:IntKind.i64.wrap ((i:Int)+(m:Int))=(i:Int)+(m:Int):=IntWalk.i64_in _ (by omega)
    have HJ1:=Qh hj1
    clear Hst Hpre hj1
    gi_wp2
    go_roundw
    case rel=>exact ⟨f,i+m,pre,by omega,by omega,rfl,by go_num,Hbox1.out,Hn.out,Hne.out,HJ1.out⟩
    case measure=>simp [intOf];omega
  ·have d0:decide ((i:Int)<(s.length:Int))=false:=Qf (by omega)
   have hil:i=s.length:=by omega
   have Hn:=Qh (show segsO pre++dataG (s.drop f)=N by
    have:=Hpre.out
    rwa [List.drop_of_length_le (show s.length≤i by omega),Xup,List.take_of_length_le (by rw [List.length_drop];omega)] at this)
   by_cases hf:f<s.length
   ·have d1:decide ((f:Int)<(s.length:Int))=true:=Qt (by omega)
    obtain ⟨fn,tmps,assign,body,hy,hR⟩:=HY.out pre ⟨s.drop f,0⟩ wr Hj.out (by omega)
    have Hs:=Qh (show segsO (pre++ [⟨s.drop f,0⟩])=N by rw [Xfc,←Hn.out];simp [segO])
    dsimp only [Rn.enc] at hy
    rw [show (((0:Nat):Int))=0 from rfl] at hy
    have htd:List.take (s.length-f) (List.drop f s)=List.drop f s:=List.take_of_length_le (by rw [List.length_drop];omega)
    clear Hpre Hj
    gi_wp2
    refine hR.mono ?_
    rintro e W3 (⟨rfl,hJ3,hk3⟩|⟨rfl,hJx3⟩)
    ·gi_wp2
     go_end0
     exact ⟨⟨_,rfl⟩,.inl ⟨_,Hs.out,hJ3⟩⟩
    ·gi_wp2
     go_end0
     exact ⟨⟨_,rfl⟩,.inr ⟨_,trivial,hJx3⟩⟩
   ·have d1:decide ((f:Int)<(s.length:Int))=false:=Qf (by omega)
    have Hs:=Qh (show segsO pre=N by
     have:=Hn.out
     rw [List.drop_of_length_le (show s.length≤f by omega)] at this
     simpa [dataG] using this)
    clear Hpre
    gi_wp2
    go_end0
    exact ⟨⟨_,rfl⟩,.inl ⟨_,Hs.out,Hj.out⟩⟩
set_option maxRecDepth 100000 in
theorem Xul (s:Bytes) (w:World):Calls Tryz.prog 256 #[S s] w fun e w'=>e= .returned (.func (.func 287) #[] #[.pointer (some ⟨w.heap.size,0,none⟩)])∧w'=w.alloc (.cells #[S s] 9):=by
 go_enter Tryz.func256,Tryz.ntmps256
 go_wp2
 go_ret
 exact ⟨rfl,rfl⟩
theorem Xrf (d:Bytes):(dataG d).length≤1:=by unfold dataG;split<;>simp
theorem Xj5:∀l:List Rn,(segsO l).length≤2*l.length
 | []=>Qn _
 |x::l=>by
  have ih:=Xj5 l
  have h1:=Xrf x.d
  have h2:(segO x).length≤2:=by
   unfold segO
   rw [List.length_append]
   split<;>simp<;>omega
  show (segO x++segsO l).length≤_
  rw [List.length_append,List.length_cons]
  omega
structure SpL (b:Nat) (w:World) (l:List Sg) (v:Value) (W:World):Prop where
 box:W.heap[b]? =some (.cells #[v] 236 (0,0))
 own:OwnS tSg 239 (fun _=>none) W (b+2) v l
 bel:Below b w W
section
variable {b B:Nat} {w W W':World} {l l':List Sg} {v v':Value}
theorem SpL.c0 (h:SpL b w l v W):W.cell? ⟨b,0,none⟩=some v:=(cell_of_row W _ 0 _ _ _ h.box).trans rfl
theorem SpL.f0 (h:SpL b w l v W):W.frozen? ⟨b,0,none⟩=false:=frozen_of_row W _ 0 _ _ h.box
theorem SpL.ne (h:SpL b w l v W) {k:Nat} (hk:k<b+2):v.ownBlock≠some k:=fun e=>by have:=(Xar h.own e).1;omega
theorem SpL.turn {row:Option Nat} (h:SpL b w l v W) (hb:b≤w.heap.size) (hB:b≤B) (hg:W.grownBy W' row) (hr:∀r,row=some r→B≤r∧ ∃o:Obj,W.heap[r]? =some o∧o.isCells=false):SpL b w l v W':=
 ⟨Xm8 h.box hg fun r e=>(hr r e).2,h.own.turn hg fun r e=>(hr r e).2,Below.turn h.bel hb hB hg hr⟩
theorem SpL.add (h:SpL b w l v W) (hb:b≤w.heap.size) (ho:OwnS tSg 239 (fun _=>none) W' (b+2) v' l') (hg:W.grownBy W' v.ownBlock):
 SpL b w l' v' (W'.setCell ⟨b,0,none⟩ v')∧KeepsFrom B W (W'.setCell ⟨b,0,none⟩ v')∧(b+1<W.heap.size→(W'.setCell ⟨b,0,none⟩ v').heap[b+1]? =W.heap[b+1]?):=by
 have hlt:=(Array.getElem?_eq_some_iff.1 h.box).1
 have hs:=h.bel.size
 have e1:W'.heap[b]? =some (.cells #[v] 236 (0,0)):=(hg.block _ hlt (fun e=>h.ne (by omega) e.symm)).trans h.box
 refine ⟨⟨heap_setCell_same W' b 0 _ _ v' e1,ho.stored (fun e=>by have:=(Xar ho e).1;omega) 0 v',(h.bel.grown hg (by omega) (fun k hk=>by have:=(Xar h.own hk).1;omega)).setCell (p:=⟨b,0,none⟩) (Qn _) v'⟩,(KeepsFrom.own h.own hg).trans (KeepsFrom.setCellK W' ⟨b,0,none⟩ v'),fun hl=> ?_⟩
 exact (heap_setCell_other W' ⟨b,0,none⟩ (b+1) v' (by show b+1≠b;omega)).trans (hg.block _ hl (fun e=>h.ne (by omega) e.symm))
end
def SpI (b:Nat) (w:World) (pre:List Rn) (W:World):Prop:= ∃v,SpL b w (segsO pre) v W∧b+1<W.heap.size
theorem Xum {b B:Nat} {w:World} (hb:b≤w.heap.size) (hB:b≤B):OwnFrom B (SpI b w):=fun pre W W' row ⟨v,h,hl⟩ hg hr=>⟨v,h.turn hb hB hg hr,Nat.lt_of_lt_of_le hl hg.size⟩
set_option maxRecDepth 100000 in
set_option maxHeartbeats 2000000 in
theorem Xsh (I:IH) (s:Bytes) (hs:s.length≤4294967280) (w:World):
 Calls Tryz.prog 192 #[S s] w fun e w'=> ∃v',e= .returned v'∧OwnS tSg 239 I w' w.heap.size v' (segsP s)∧Below w.heap.size w w':=by
 have H0:=Qh (show SpI w.heap.size w [] ((w.alloc (.cells #[.slice none 0 0] 236)).alloc (.cells #[S s] 9)) from ⟨_,⟨(Below.heap_alloc _ _ _ (by simp)).trans (heap_alloc_new w _),OwnS.nil _ _ _ _ _,((Qb _ _).alloc (Qn _) _).alloc (by simp) _⟩,by simp⟩)
 have HB:=Qh (show ((w.alloc (.cells #[.slice none 0 0] 236)).alloc (.cells #[S s] 9)).heap[w.heap.size+1]? =some (.cells #[S s] 9 (0,0)) by
  have h:=heap_alloc_new (w.alloc (.cells #[.slice none 0 0] 236)) (.cells #[S s] 9)
  simpa using h)
 have hsz:((w.alloc (.cells #[.slice none 0 0] 236)).alloc (.cells #[S s] 9)).heap.size=w.heap.size+2:=by simp
 refine (callsIn_wide (n:=3)).1 ?_
 refine callsIn_of_wp_marks Tryz.func192 rfl trivial ?_ rfl
 simp only [Tryz.ntmps192,List.size_toArray,List.length_cons,List.length_nil,Nat.reduceAdd,Nat.reduceSub,Array.replicate_succ,Array.replicate_zero,List.push_toArray,List.append_toArray,List.nil_append,List.cons_append]
 gi_wp2_with fail
 refine ⟨trivial,(callsIn_wide.2 (Xul s _)).mono ?_⟩
 rintro e w1 ⟨rfl,rfl⟩
 gi_wp2
 generalize hW0:((w.alloc (.cells #[.slice none 0 0] 236)).alloc (.cells #[S s] 9))=W0 at H0 HB hsz ⊢
 clear hW0
 refine wpIn_rangeFunc_ownG rfl (by decide) (gf:=287) (lb:= #[.pointer (some ⟨w.heap.size+1,0,none⟩)]) rfl trivial (enters_of Tryz.func287 (by kernel_rfl) rfl)
  (Xsg _ (by decide) s hs (w.heap.size+1) W0 HB.out) (fun h k=>k.trans h) (fun W l o o' hl _ _ _=>World.putObj_heap_other (by omega)) (Qb _ _) (fun _=>rfl)
  (SpI w.heap.size w) (fun _ _ _=>False) (Xum (Qn _) (by omega)) (fun _ _ _ _ _ h _ _=>h) H0.out
  (fun x=> { tmps:= #[S s,undef,.slice none 0 0,.pointer (some ⟨w.heap.size,0,none⟩),S x.d,.int .i64 (x.n:Nat),S s,.func (.func 287) #[] #[.pointer (some ⟨w.heap.size+1,0,none⟩)],S x.d,.int .i64 (x.n:Nat),undef,undef,undef,undef,undef,undef,undef,undef,undef,undef,undef,undef,undef,undef,undef],defers:= [] })
  ?assign ?body ?done ?stop
 case assign=>
  intro l x W K hK
  obtain ⟨d,n⟩:=x
  dsimp only [Rn.enc]
  gi_wp2
  exact hK
 case body=>
  intro l pre x W ⟨v,h,hl⟩ hpl
  have hsl:=Xj5 pre
  have hso:=Xfc pre x
  have hbs:=h.bel.size
  obtain ⟨a0,n0,k0,rfl⟩:=Xdk h.own
  have H:=Qh h
  have c0:=h.c0
  clear h
  obtain ⟨d,n⟩:=x
  dsimp only at hso ⊢
  have Hso:=Qh hso
  clear hso
  by_cases hd:d= []
  ·obtain ⟨p1,p2,p3,p4⟩:=Xdf hd
   by_cases hn:0<n
   ·have d1:decide ((0:Int)<(n:Int))=true:=Qt (by omega)
    have d2:decide (0<n)=true:=Qt hn
    have Hl:=Qh (show segsO (pre++ [⟨d,n⟩])=segsO pre++ [⟨(n:Nat),[]⟩] by rw [Hso.out,segO,hd,if_pos hn];rfl)
    clear hd hn
    gi_wp2_with (gi_at_builtin;go_loud (refine Xbe (w0:=W) Xix rfl _ _ rfl (w.heap.size+2) _ (segsO pre) rfl H.out.own ⟨(n:Nat),[]⟩ [.int .i64 (n:Nat),S []] _ (by first|rfl|simp [Act.eval]) rfl (by omega) (by omega) (by omega) ?_))
    intro v7 w7 ho7 hg7 hl7
    obtain ⟨g7,n7,k7,rfl⟩:=Xdk ho7
    have cp7:=Xah hg7 (H.out.ne (k:=w.heap.size) (by omega)) H.out.c0
    have fp7:=Xcu hg7 (H.out.ne (k:=w.heap.size) (by omega)) H.out.c0 H.out.f0
    obtain ⟨k1,k2,k3⟩:=H.out.add (B:=W0.heap.size) (Qn _) ho7 hg7
    gi_wp2
    show KeepsFrom W0.heap.size W _∧_=_∧SpI w.heap.size w _ _
    exact ⟨k2,k3 hl,_,by rw [Hl.out];exact k1,by have:=hg7.size;simp;omega⟩
   ·have d1:decide ((0:Int)<(n:Int))=false:=Qf (by omega)
    have d2:decide (0<n)=false:=Qf hn
    have Hl:=Qh (show segsO (pre++ [⟨d,n⟩])=segsO pre by rw [Hso.out,segO,hd,if_neg hn];simp [dataG])
    clear hd hn
    gi_wp2
    show KeepsFrom W0.heap.size W _∧_=_∧SpI w.heap.size w _ _
    exact ⟨KeepsFrom.refl _ _,rfl,_,by rw [Hl.out];exact H.out,hl⟩
  ·obtain ⟨p1,p2,p3,p4⟩:=Xde hd
   by_cases hn:0<n
   ·have d1:decide ((0:Int)<(n:Int))=true:=Qt (by omega)
    have d2:decide (0<n)=true:=Qt hn
    have Hl:=Qh (show segsO (pre++ [⟨d,n⟩])=segsO pre++ [⟨0,d⟩,⟨(n:Nat),[]⟩] by rw [Hso.out,segO,dataG,if_neg hd,if_pos hn];simp)
    clear hd hn
    gi_wp2_with (gi_at_builtin;go_loud (refine Xbe (w0:=W) Xix rfl _ _ rfl (w.heap.size+2) _ (segsO pre) rfl H.out.own ⟨0,d⟩ [.int .i64 0,S d] _ (by first|rfl|simp [Act.eval]) rfl (by omega) (by omega) (by omega) ?_))
    intro v7 w7 ho7 hg7 hl7
    obtain ⟨g7,n7,k7,rfl⟩:=Xdk ho7
    have cp7:=Xah hg7 (H.out.ne (k:=w.heap.size) (by omega)) H.out.c0
    have fp7:=Xcu hg7 (H.out.ne (k:=w.heap.size) (by omega)) H.out.c0 H.out.f0
    obtain ⟨k1,k2,k3⟩:=H.out.add (B:=W0.heap.size) (Qn _) ho7 hg7
    have K1:=Qh k1
    have K2:=Qh k2
    have K3:=Qh (k3 hl)
    have c7:=k1.c0
    have hsz7:W.heap.size≤(w7.setCell ⟨w.heap.size,0,none⟩ (.slice g7 n7 k7)).heap.size:=by have:=hg7.size;simp;omega
    have hl2:(segsO pre++ [(⟨0,d⟩:Sg)]).length≤2*pre.length+1:=by simp;omega
    clear k1 k2 k3 ho7 hg7 hl7 c0
    gi_wp2_with (gi_at_builtin;go_loud (refine Xbe (w0:=(w7.setCell ⟨w.heap.size,0,none⟩ (.slice g7 n7 k7))) Xix rfl _ _ rfl (w.heap.size+2) _ (segsO pre++ [⟨0,d⟩]) rfl K1.out.own ⟨(n:Nat),[]⟩ [.int .i64 (n:Nat),S []] _ (by first|rfl|simp [Act.eval]) rfl (by omega) (by omega) (by omega) ?_))
    intro v8 w8 ho8 hg8 hl8
    obtain ⟨g8,n8,k8,rfl⟩:=Xdk ho8
    have cp8:=Xah hg8 (K1.out.ne (k:=w.heap.size) (by omega)) K1.out.c0
    have fp8:=Xcu hg8 (K1.out.ne (k:=w.heap.size) (by omega)) K1.out.c0 K1.out.f0
    obtain ⟨k1,k2,k3⟩:=K1.out.add (B:=W0.heap.size) (Qn _) ho8 hg8
    gi_wp2
    show KeepsFrom W0.heap.size W _∧_=_∧SpI w.heap.size w _ _
    exact ⟨K2.out.trans k2,(k3 (by omega)).trans K3.out,_,by rw [Hl.out];exact k1,by have:=hg8.size;simp;omega⟩
   ·have d1:decide ((0:Int)<(n:Int))=false:=Qf (by omega)
    have d2:decide (0<n)=false:=Qf hn
    have Hl:=Qh (show segsO (pre++ [⟨d,n⟩])=segsO pre++ [⟨0,d⟩] by rw [Hso.out,segO,dataG,if_neg hd,if_neg hn];simp)
    clear hd hn
    gi_wp2_with (gi_at_builtin;go_loud (refine Xbe (w0:=W) Xix rfl _ _ rfl (w.heap.size+2) _ (segsO pre) rfl H.out.own ⟨0,d⟩ [.int .i64 0,S d] _ (by first|rfl|simp [Act.eval]) rfl (by omega) (by omega) (by omega) ?_))
    intro v7 w7 ho7 hg7 hl7
    obtain ⟨g7,n7,k7,rfl⟩:=Xdk ho7
    have cp7:=Xah hg7 (H.out.ne (k:=w.heap.size) (by omega)) H.out.c0
    have fp7:=Xcu hg7 (H.out.ne (k:=w.heap.size) (by omega)) H.out.c0 H.out.f0
    obtain ⟨k1,k2,k3⟩:=H.out.add (B:=W0.heap.size) (Qn _) ho7 hg7
    gi_wp2
    show KeepsFrom W0.heap.size W _∧_=_∧SpI w.heap.size w _ _
    exact ⟨k2,k3 hl,_,by rw [Hl.out];exact k1,by have:=hg7.size;simp;omega⟩
 case done=>
  rintro D xs W hD hS ⟨v,h,hl⟩ hK
  have c0:=h.c0
  have hbs:=h.bel.size
  gi_wp2
  refine ⟨by simp,.inl ⟨_,_,rfl,run_takeDeferred hK,?_⟩⟩
  have h2:=h.turn (Qn _) (show w.heap.size≤w.heap.size from Qn _) (grownBy_putObj' W D (.deferred none)) (fun r e=>by cases e;exact ⟨by omega,_,hK,rfl⟩)
  rw [hS] at h2
  obtain ⟨ys,q1,q2⟩:=h2.own
  exact ⟨_,results_tmp rfl _ _ _,v,rfl,OwnS.lower ⟨ys,q1,q2.1,fun i hi=>by obtain ⟨cs,r1,r2⟩:=q2.2 i hi;exact ⟨cs,r1,r2⟩⟩ (by omega),h2.bel⟩
 case stop=>
  rintro D c pre W _ _ h _
  exact h.elim
end Go.Proofs.YtkipnpjagcfcpaaGreatDoor
namespace Go.Proofs.YtkipnpjagcfcpaaGreatDoor
open Go.RowKit
theorem Xl5 (b:Nat) (s:Bytes) (hs:s.length≤140737488355328) (w:World) (hc:w.cell? ⟨b,0,none⟩=some (S s)) (hbl:b<w.heap.size):
 Calls Tryz.prog 84 #[.slice (some ⟨b,0,none⟩) 1 1] w fun e w'=>e= .returned (S (sumP s))∧Below w.heap.size w w':=
 Xjt b 0 1 [s] s (by simp) hs w (fun j x hx=>by match j,hx with|0,hx=>cases hx;exact hc) (by simp) hbl (by simp)
structure PgM (n m B bo:Nat) (C0:Array Value) (w0:World) (J:IH) (W:World) (q:Sto) (lm:List Ck) (l:List Xt) (vk ve:Value) (nn:Nat):Prop where
 ro:W.heap[m]? =some (.cells #[vk,.int .i64 q.ses,S q.str] 89 (0,0))
 r0:W.heap[n]? =some (.cells C0 89 (0,0))
 r1:W.heap[n+1]? =some (.cells #[.slice none 0 0,.int .i64 0,S []] 89 (0,0))
 rm:∃D,W.ownsMap Tryz.prog 9 xElem B nn D∧MapX D lm
 rb:W.heap[bo]? =some (.cells #[ve] 33 (0,0))
 ck:OwnS tCk 181 J W (n+2) vk q.cks
 ox:OwnS tXt 110 J W (n+2) ve l
 ok:Ok J W
 fn:∀b,b=n∨b=n+1∨b=m∨b=B∨b=bo→J b=none
 fk:∀g,vk.ownBlock=some g→J g=none
 fe:∀g,ve.ownBlock=some g→J g=none
 lm':n+2≤m
 lB:n+2≤B
 lo:n+2≤bo
 hB:B<W.heap.size
 nw:n≤w0.heap.size
 bel:Below n w0 W
section
variable {n m B bo:Nat} {C0:Array Value} {w0:World} {J J':IH} {W W':World} {q q':Sto} {lm lm2:List Ck} {l l':List Xt} {vk ve vk' ve':Value} {nn:Nat}
theorem PgM.lt (h:PgM n m B bo C0 w0 J W q lm l vk ve nn):m<W.heap.size∧bo<W.heap.size∧n+1<W.heap.size:=⟨(Array.getElem?_eq_some_iff.1 h.ro).1,(Array.getElem?_eq_some_iff.1 h.rb).1,(Array.getElem?_eq_some_iff.1 h.r1).1⟩
theorem Xe5 {W:World} {P:Program} {k:TypeId} {R:Value→Option (DataW Unit × List MemPlace)} {b nn:Nat} {D:DataW Unit} (h:W.ownsMap P k R b nn D) {c:Array Value} {t:TypeId} {f:Nat × Nat} {i:Nat} (hi:W.heap[i]? =some (.cells c t f)):i≠b:=by
 intro e
 subst e
 obtain ⟨es,clock,hb,_⟩:=h
 rw [hi] at hb
 cases hb
theorem PgM.mb (h:PgM n m B bo C0 w0 J W q lm l vk ve nn):m≠bo:=fun e=>by
 have:=h.ro
 rw [e,h.rb] at this
 exact absurd (Obj.cells.inj (Option.some.inj this)).2.1 (by decide)
theorem PgM.mB (h:PgM n m B bo C0 w0 J W q lm l vk ve nn):m≠B∧bo≠B:=by
 obtain ⟨D,h1,_⟩:=h.rm
 exact ⟨Xe5 h1 h.ro,Xe5 h1 h.rb⟩
theorem PgM.vk_ne (h:PgM n m B bo C0 w0 J W q lm l vk ve nn):vk.ownBlock≠some m∧vk.ownBlock≠some bo∧vk.ownBlock≠some B∧(∀b,b<n+2→vk.ownBlock≠some b):=by
 refine ⟨Xbt h.ck h.ro (by decide),Xbt h.ck h.rb (by decide),fun e=> ?_,fun b hb e=> ?_⟩
 ·obtain ⟨D,h1,_⟩:=h.rm
  obtain ⟨_,cur,hc⟩:=Xar h.ck e
  exact Xe5 h1 hc rfl
 ·have:=(Xar h.ck e).1;omega
theorem PgM.ve_ne (h:PgM n m B bo C0 w0 J W q lm l vk ve nn):ve.ownBlock≠some m∧ve.ownBlock≠some bo∧ve.ownBlock≠some B∧(∀b,b<n+2→ve.ownBlock≠some b):=by
 refine ⟨Xbt h.ox h.ro (by decide),Xbt h.ox h.rb (by decide),fun e=> ?_,fun b hb e=> ?_⟩
 ·obtain ⟨D,h1,_⟩:=h.rm
  obtain ⟨_,cur,hc⟩:=Xar h.ox e
  exact Xe5 h1 hc rfl
 ·have:=(Xar h.ox e).1;omega
theorem PgM.kv (h:PgM n m B bo C0 w0 J W q lm l vk ve nn):vk.ownBlock=none∨vk.ownBlock≠ve.ownBlock:=by
 cases hk:vk.ownBlock with
 |none=>exact .inl rfl
 |some g=>
  refine .inr fun e=> ?_
  obtain ⟨_,c1,h1⟩:=Xar h.ck hk
  obtain ⟨_,c2,h2⟩:=Xar h.ox e.symm
  rw [h1] at h2
  exact absurd (Obj.cells.inj (Option.some.inj h2)).2.1 (by decide)
theorem PgM.vkv (h:PgM n m B bo C0 w0 J W q lm l vk ve nn):ve.ownBlock=none∨ve.ownBlock≠vk.ownBlock:=by
 rcases h.kv with h1|h1
 ·cases he:ve.ownBlock with
  |none=>exact .inl rfl
  |some g=>exact .inr (by rw [h1];simp)
 ·exact .inr fun e=>h1 e.symm
theorem PgM.ext (h:PgM n m B bo C0 w0 J W q lm l vk ve nn) (hb:Below W.heap.size W W') (hx:Ext W.heap.size J J') (hok:Ok J' W'):PgM n m B bo C0 w0 J' W' q lm l vk ve nn:=by
 obtain ⟨l1,l2,l3⟩:=h.lt
 have hk:=hx.keep h.ok (Qn _)
 have hs:=hb.size
 obtain ⟨D,d1,d2⟩:=h.rm
 refine ⟨(hb.block _ l1).trans h.ro,(hb.block _ (by omega)).trans h.r0,(hb.block _ l3).trans h.r1,⟨D,d1.kept (Xhc hb) (by simp),d2⟩,(hb.block _ l2).trans h.rb,(h.ck.below hb).mono hk,(h.ox.below hb).mono hk,hok,fun b hb'=> ?_,fun g hg=> ?_,fun g hg=> ?_,h.lm',h.lB,h.lo,by have:=h.hB;omega,h.nw,h.bel.trans (hb.mono (by omega))⟩
 ·rw [hx b (by have:=h.hB;have:=h.lm';omega)];exact h.fn b hb'
 ·rw [hx g ((Xar h.ck hg).2.elim fun c hc=>(Array.getElem?_eq_some_iff.1 hc).1)];exact h.fk g hg
 ·rw [hx g ((Xar h.ox hg).2.elim fun c hc=>(Array.getElem?_eq_some_iff.1 hc).1)];exact h.fe g hg
theorem PgM.below (h:PgM n m B bo C0 w0 J W q lm l vk ve nn) (hb:Below W.heap.size W W'):PgM n m B bo C0 w0 J W' q lm l vk ve nn:=h.ext hb (Ext.refl _ _) (h.ok.below (Qn _) hb)
theorem PgM.past (h:PgM n m B bo C0 w0 J W q lm l vk ve nn) (o:Obj):PgM n m B bo C0 w0 J (W.alloc o) q lm l vk ve nn:=h.below ((Qb _ _).alloc (Qn _) o)
theorem PgM.mapped (h:PgM n m B bo C0 w0 J W q lm l vk ve nn) (hg:W.grownBy W' (some B)) {D:DataW Unit} {n2:Nat} (hD:W'.ownsMap Tryz.prog 9 xElem B n2 D) (hM:MapX D lm2):PgM n m B bo C0 w0 J W' q lm2 l vk ve n2:=by
 obtain ⟨l1,l2,l3⟩:=h.lt
 have hb:=h.lB
 have k:∀i,i<W.heap.size→i≠B→W'.heap[i]? =W.heap[i]? :=fun i hi hne=>hg.block i hi (fun e=>hne (by cases e;rfl))
 exact ⟨(k _ l1 h.mB.1).trans h.ro,(k _ (by omega) (by omega)).trans h.r0,(k _ l3 (by omega)).trans h.r1,⟨D,hD,hM⟩,(k _ l2 h.mB.2).trans h.rb,h.ck.kept hg (.inr h.vk_ne.2.2.1),h.ox.kept hg (.inr h.ve_ne.2.2.1),h.ok.grown hg (fun g e=>by cases e;exact h.fn _ (by simp)),h.fn,h.fk,h.fe,h.lm',h.lB,h.lo,by have:=h.hB;have:=hg.size;omega,h.nw,
  h.bel.grown hg (by omega) (fun i e=>by cases e;omega)⟩
theorem PgM.added (h:PgM n m B bo C0 w0 J W q lm l vk ve nn) (ho:OwnS tCk 181 J W' (n+2) vk' q'.cks) (hg:W.grownBy W' vk.ownBlock) (hl:∀g,vk'.ownBlock=some g→vk.ownBlock=some g∨W.heap.size≤g) (e1:q'.ses=q.ses) (e2:q'.str=q.str):
 PgM n m B bo C0 w0 J (W'.setCell ⟨m,0,none⟩ vk') q' lm l vk' ve nn:=by
 obtain ⟨l1,l2,l3⟩:=h.lt
 obtain ⟨k1,k2,k3,k4⟩:=h.vk_ne
 have hm:=h.lm'
 have s:∀i,i≠m→(W'.setCell ⟨m,0,none⟩ vk').heap[i]? =W'.heap[i]? :=fun i hi=>heap_setCell_other W' ⟨m,0,none⟩ i vk' hi
 have k:∀i,i<W.heap.size→vk.ownBlock≠some i→W'.heap[i]? =W.heap[i]? :=fun i hi hne=>hg.block i hi (fun e=>hne e.symm)
 have r1:=(k m l1 k1).trans h.ro
 obtain ⟨D,d1,d2⟩:=h.rm
 have d3:=d1.kept hg (fun e=>k3 e.symm)
 have gs:W'.grownBy (W'.setCell ⟨m,0,none⟩ vk') (some m):=grownBy_setCell' W' m vk'
 refine ⟨by rw [e1,e2];exact heap_setCell_same W' m 0 _ _ vk' r1,(s _ (by omega)).trans ((k _ (by omega) (k4 _ (by omega))).trans h.r0),(s _ (by omega)).trans ((k _ l3 (k4 _ (by omega))).trans h.r1),⟨D,d3.kept gs (fun e=>h.mB.1 (by cases e;rfl)),d2⟩,(s _ h.mb.symm).trans ((k _ l2 k2).trans h.rb),ho.stored (Xbt ho r1 (by decide)) 0 vk',?_,(h.ok.grown hg (fun g e=>h.fk g e)).setCell (a:=⟨m,0,none⟩) (h.fn m (by simp)) vk',h.fn,fun g hk=> ?_,h.fe,h.lm',h.lB,h.lo,by have:=h.hB;have:=hg.size;simp;omega,h.nw,?_⟩
 ·have ox1:=h.ox.kept hg h.vkv
  exact ox1.stored (Xbt ox1 r1 (by decide)) 0 vk'
 ·rcases hl g hk with h1|h1
  ·exact h.fk g h1
  ·exact h.ok.fresh h1
 ·exact (h.bel.grown hg (by omega) (fun i e=>by have:=(Xar h.ck e).1;omega)).setCell (p:=⟨m,0,none⟩) (by show n≤m;omega) vk'
theorem PgM.wrote (h:PgM n m B bo C0 w0 J W q lm l vk ve nn) (b:Bytes):PgM n m B bo C0 w0 J (W.setCell ⟨m,2,none⟩ (S b)) ⟨q.cks,q.ses,b⟩ lm l vk ve nn:=by
 have hm:=h.lm'
 have s:∀i,i≠m→(W.setCell ⟨m,2,none⟩ (S b)).heap[i]? =W.heap[i]? :=fun i hi=>heap_setCell_other W ⟨m,2,none⟩ i (S b) hi
 have gs:W.grownBy (W.setCell ⟨m,2,none⟩ (S b)) (some m):=⟨rfl,rfl,rfl,by simp,fun i _ hk=>s i (fun e=>hk (by rw [e]))⟩
 obtain ⟨D,d1,d2⟩:=h.rm
 exact ⟨heap_setCell_same W m 2 _ _ (S b) h.ro,(s _ (by omega)).trans h.r0,(s _ (by omega)).trans h.r1,⟨D,d1.kept gs (fun e=>h.mB.1 (by cases e;rfl)),d2⟩,(s _ h.mb.symm).trans h.rb,h.ck.stored h.vk_ne.1 2 _,h.ox.stored h.ve_ne.1 2 _,h.ok.setCell (a:=⟨m,2,none⟩) (h.fn m (by simp)) _,h.fn,h.fk,h.fe,h.lm',h.lB,h.lo,by have:=h.hB;simp;omega,h.nw,h.bel.setCell (p:=⟨m,2,none⟩) (by show n≤m;omega) _⟩
theorem PgM.coll (h:PgM n m B bo C0 w0 J W q lm l vk ve nn) (hr:W'.heap[bo]? =some (.cells #[ve'] 33 (0,0))) (ho:OwnS tXt 110 J W' (n+2) ve' l') (hg:Gr2 W W' ve.ownBlock bo) (hl:∀g,ve'.ownBlock=some g→ve.ownBlock=some g∨W.heap.size≤g):PgM n m B bo C0 w0 J W' q lm l' vk ve' nn:=by
 obtain ⟨l1,l2,l3⟩:=h.lt
 obtain ⟨k1,k2,k3,k4⟩:=h.ve_ne
 have hb:=h.lo
 have k:∀i,i<W.heap.size→ve.ownBlock≠some i→i≠bo→W'.heap[i]? =W.heap[i]? :=fun i hi hne hi2=>hg.block i hi (fun e=>hne e.symm) hi2
 obtain ⟨D,⟨es,clock,d1,d2⟩,d3⟩:=h.rm
 refine ⟨(k _ l1 k1 h.mb).trans h.ro,(k _ (by omega) (k4 _ (by omega)) (by omega)).trans h.r0,(k _ l3 (k4 _ (by omega)) (by omega)).trans h.r1,⟨D,⟨es,clock,(k _ h.hB k3 h.mB.2.symm).trans d1,d2⟩,d3⟩,hr,?_,ho,?_,h.fn,h.fk,fun g hk=> ?_,h.lm',h.lB,h.lo,Nat.lt_of_lt_of_le h.hB hg.size,h.nw,hg.below h.bel h.nw (fun g e=>by have:=(Xar h.ox e).1;omega) (by omega)⟩
 ·obtain ⟨xs,x1,x2⟩:=h.ck
  refine ⟨xs,⟨x1.1,?_⟩,x2⟩
  rcases x1.2 with y|⟨g,cap,cur,y1,y2,y3,y4⟩
  ·exact .inl y
  ·have hvg:vk.ownBlock=some g:=by rw [y1];rfl
   refine .inr ⟨g,cap,cur,y1,y2,(k g (Array.getElem?_eq_some_iff.1 y3).1 (fun e=> ?_) (fun e=>h.vk_ne.2.1 (by rw [hvg,e]))).trans y3,y4⟩
   rcases h.kv with z|z
   ·rw [hvg] at z;cases z
   ·exact z (by rw [hvg,e])
 ·refine h.ok.of_block fun b c hc=>k b (h.ok.lt hc) (fun e=> ?_) (fun e=> ?_)
  ·rw [h.fe b e] at hc;cases hc
  ·rw [e,h.fn bo (by simp)] at hc;cases hc
 ·rcases hl g hk with h1|h1
  ·exact h.fe g h1
  ·exact h.ok.fresh h1
end
structure SesD (s:Ses):Prop where
 num:0≤s.num∧s.num≤255
 date:0≤s.date∧s.date≤1000000000
 prev:s.prev.length≤32
 stream:s.stream.length≤14680064
 nents:s.ents.length≤5000
 err:∀e∈s.ents,entErr e=0
 wf:∀e∈s.ents,e.Wf
 exts:∀e∈s.ents,e.exts.length≤1000
theorem Xpw {s:Ses} (h:SesD s):(sesHead s).length≤400:=by
 have h1:=Xbc (n:=s.num) (by have:=h.num;omega) (by have:=h.num;omega)
 have h2:=Xbc (n:=s.date) (by have:=h.date;omega) (by have:=h.date;omega)
 have h3:=Xaq s.prev (by have:=h.prev;omega)
 have h4:=Xbg s.stream.length (by have:=h.stream;omega)
 have h5:=Xb7 s.stream
 have h6:=Xaq (sumP s.stream) (by omega)
 have h7:=Xbg s.ents.length (by have:=h.nents;omega)
 have h8:=h.prev
 unfold sesHead
 simp only [List.length_append]
 omega
theorem Xsm {s:Ses} (h:SesD s) (k:Nat):(sesK s k).length≤271000000:=by
 have h1:=Xpw h
 have h2:=Xjj (l:=s.ents.take k) fun e he=>⟨Xca (h.err e (List.mem_of_mem_take he)),h.exts e (List.mem_of_mem_take he)⟩
 have h3:(s.ents.take k).length≤s.ents.length:=by simp;omega
 have h4:=h.nents
 unfold sesK
 rw [List.length_append]
 omega
abbrev sgL (n:Nat) (st p4 sm p6 p7 u:Bytes) (ao:Option Addr) (le co:Nat) (x:Nat × Nat):List (Option Tmp × Value):=
 [(some 20,.pointer (some ⟨n,4,none⟩)),(some 21,S st),(some 22,.int .i64 (st.length:Int)),(some 23,S p4),(some 24,.pointer (some ⟨n,4,none⟩)),(some 25,S st),(some 26,.slice (some ⟨x.1,0,none⟩) 1 1),(some 27,S sm),(some 28,S p6),(some 29,S (p4++p6)),
  (some 30,.pointer (some ⟨n,3,none⟩)),(some 31,.slice ao le co),(some 32,.int .i64 (le:Int)),(some 33,S p7),(some 34,S u),(some 35,.tuple #[.int .i64 (u.length:Int),.nilIface])]
theorem Xam {n:Nat} {st p4 sm p6 p7 u:Bytes} {ao:Option Addr} {le co:Nat} {x:Nat × Nat}:ApartF (sgL n st p4 sm p6 p7 u ao le co x):=by
 unfold ApartF
 simp
set_option maxRecDepth 100000 in
set_option maxHeartbeats 4000000 in
theorem Xps (I:IH) (hI:Glob I) (s:Ses) (ve:Value) (hve:RdS tEnt I ve s.ents) (hg:SesD s) (w:World) (hw:Ok I w):
 Calls Tryz.prog 131 #[sesV s ve] w fun r w'=>r= .returned (S (sumP (sesText s)))∧Below w.heap.size w w':=by
 obtain ⟨ao,co,rfl,_,_,_⟩:=id hve
 have Hv:=Qh hve
 have Hg:=Qh hg
 have hnm:=hg.num
 have hdt:=hg.date
 have hn30:=hg.nents
 have hst:=hg.stream
 have hpv:=hg.prev
 have Hkl:=Qh (fun k=>Xsm hg k)
 have hm1:=Xbc (n:=s.num) (by omega) (by omega)
 have hm2:=Xbc (n:=s.date) (by omega) (by omega)
 have hm3:=Xaq s.prev (by omega)
 have hm4:=Xbg s.stream.length (by omega)
 have hsm:=Xb7 s.stream
 have hm5:=Xaq (sumP s.stream) (by omega)
 have hm6:=Xbg s.ents.length (by omega)
 have H1:=Qh (fun w hw=>Xdm I hI s.num (by omega) (by omega) w hw)
 have H2:=Qh (fun w hw=>Xdm I hI s.date (by omega) (by omega) w hw)
 have H3:=Qh (fun w hw=>Xbu I hI s.prev (by omega) w hw)
 have H4:=Qh (fun w hw=>Xb0 I hI s.stream.length (by omega) w hw)
 have H5:=Qh (fun b w hc hb=>Xl5 b s.stream (by omega) w hc hb)
 have H6:=Qh (fun w hw=>Xbu I hI (sumP s.stream) (by omega) w hw)
 have H7:=Qh (fun w hw=>Xb0 I hI s.ents.length (by omega) w hw)
 have Hh:=Qh (show numP s.num++numP s.date++netP s.prev++(numP s.stream.length++netP (sumP s.stream)++numP s.ents.length)=sesK s 0 by
  rw [sesK,List.take_zero];simp [sesHead])
 clear hve hg hnm hdt
 generalize numP s.num=p1 at hm1 H1 Hh
 generalize numP s.date=p2 at hm2 H2 Hh
 generalize netP s.prev=p3 at hm3 H3 Hh
 generalize numP (s.stream.length:Int)=p4 at hm4 H4 Hh
 generalize netP (sumP s.stream)=p6 at hm5 H6 Hh
 generalize sumP s.stream=sm at hsm hm5 H5 H6
 generalize numP (s.ents.length:Int)=p7 at hm6 H7 Hh
 obtain ⟨T,hT⟩:∃T,sumP (sesText s)=T:=⟨_,rfl⟩
 rw [hT]
 have HT:=Qh hT
 clear hT
 obtain ⟨w1,hW1⟩:∃w1,w.alloc (.cells #[.int .i64 s.num,.int .i64 s.date,S s.prev,.slice ao s.ents.length co,S s.stream,S s.sl] 62)=w1:=⟨_,rfl⟩
 have HB1:=Qh (show SesB w1 w.heap.size s (.slice ao s.ents.length co) by rw [←hW1];exact sesB rfl (Qb _ _))
 have hok1:Ok I w1:=by rw [←hW1];exact hw.alloc _
 have hb1':Below w.heap.size w w1:=by rw [←hW1];exact (Qb w.heap.size w).alloc (Qn _) _
 have hbd1:Lib.IsBuilder 71 5 w1.heap.size w1.heap.size (Lib.byteCells []) (w1.alloc (.cells #[.pointer none,.slice none 0 0] 71)):=Lib.fresh_isBuilder _ _ w1
 have hw1s:w1.heap.size=w.heap.size+1:=by rw [←hW1];simp
 have hsz1:w.heap.size<w1.heap.size:=by omega
 have hok1f:∀b,w1.heap.size≤b→I b=none:=fun b hb=>hok1.fresh hb
 have HB1a:=Qh (SesB.past HB1.out (.cells #[.pointer none,.slice none 0 0] 71))
 have hok1a:Ok I (w1.alloc (.cells #[.pointer none,.slice none 0 0] 71)):=hok1.alloc _
 go_enter Tryz.func131,Tryz.ntmps131
 go_wp2_with fail
 rw [←hw1s]
 clear hw1s
 obtain ⟨c0,c1,c2,c3,c4,c5⟩:=HB1a.out
 have e0:=cell_regrown c0
 have e1:=cell_regrown c1
 have e2:=cell_regrown c2
 clear c0 c1 c2 c3 c4 c5 HB1 hW1
 refine Xac 11 (by kernel_rfl) (by kernel_rfl) ?_
 simp only [List.take_succ_cons,List.take_zero,List.drop_succ_cons,List.drop_zero]
 repeat (go_big_quiet_step ((with_reducible first|exact Calls.regrown_of (H1.out _ (hok1a.below (Qn _) (below_regrown _ _ _)))|exact Calls.regrown_of (H2.out _ (hok1a.below (Qn _) (below_regrown _ _ _)))|exact Calls.regrown_of (H3.out _ (hok1a.below (Qn _) (below_regrown _ _ _))))))
 refine wpQuiet_nil ?_
 intro w2 hwq
 have hb2:Below ((w1.alloc (.cells #[.pointer none,.slice none 0 0] 71))).heap.size ((w1.alloc (.cells #[.pointer none,.slice none 0 0] 71))) w2:=by
  obtain ⟨pq,rfl⟩:=hwq
  exact below_regrown _ _ _
 clear hwq
 have hbd2:=Xat hbd1 hb2
 have hok2:Ok I w2:=hok1a.below (Qn _) hb2
 have HB2:=Qh (HB1a.out.thru hb2)
 have hb2':Below w.heap.size w w2:=(hb1'.alloc (by have:=hb1'.size;omega) (.cells #[.pointer none,.slice none 0 0] 71)).trans (hb2.mono (by simp;omega))
 have hsz2:w1.heap.size≤w2.heap.size:=by have:=hb2.size;simp at this;omega
 clear e0 e1 e2 hb2 HB1a hbd1 hok1 hok1a hb1' H1 H2 H3
 go_wp2_with fail
 refine (Tryz.Builder_WriteString w1.heap.size w1.heap.size _ _ _ hbd2 (by rw [ByteArray.size_mk',List.size_toArray];simp [Lib.byteCells];omega) (by omega)).mono ?_
 rintro e3 w3 ⟨rfl,hbd3,hb3⟩
 have hsz3:=hbd3.lt
 have Hbd3:=Qh (Xbm (z:=p1++p2++p3) hbd3 (by simp))
 have hok3:Ok I w3:=hok2.of_block fun b c hb=>hb3.block b (Nat.lt_of_not_le fun h=>by rw [hok1f b h] at hb;cases hb)
 have HB3:=Qh (HB2.out.far hb3 hsz1)
 have hb3':=hb2'.trans (hb3.mono (Nat.le_of_lt hsz1))
 clear hbd2 hbd3 hb3 hb2' hok2 HB2 hsz2
 obtain ⟨c0,c1,c2,c3,c4,c5⟩:=HB3.out
 go_wp2_with fail
 obtain ⟨bl,hbl⟩:∃bl,w1.heap.size=bl:=⟨_,rfl⟩
 obtain ⟨u,hu⟩:∃u,p4++(p6++p7)=u:=⟨_,rfl⟩
 have d46:¬9223372036854775807<p4.length+p6.length:=by omega
 have d51:¬9223372036854775807<p4.length+p6.length+p7.length:=by omega
 have hul:u.length=p4.length+p6.length+p7.length:=by rw [←hu];simp;omega
 rw [List.append_assoc p4,hu] at Hh
 rw [hbl] at Hbd3 hok1f hsz1 hsz3 ⊢
 refine Xak (X:=Nat × Nat) (sgL w.heap.size s.stream p4 sm p6 p7 u ao s.ents.length co) (QbC w3 15 6 100 [(0,S s.stream)] [] (fun w8=>Lib.IsBuilder 71 5 bl bl (Lib.byteCells (sesK s 0)) w8∧bl<w8.heap.size∧ ∃w7,Below w3.heap.size w3 w7∧Below bl w7 w8)) (by kernel_rfl) (by kernel_rfl) ?_ ?_ ?_
 ·exact ⟨(0,0),QbC.start _ _⟩
 ·rintro x s' a' w' i hsz hcl ha hC hi
  obtain ⟨hun,oi,hoi,hall⟩:=mem_ready.1 hi
  rcases i with _|_|_|_|_|_|_|_|_|_|_|_|_|_|_|_|i
  rotate_left 16
  ·simp at hoi
  all_goals
   have hoj:=hoi
   simp at hoi
   subst hoi
   simp [Region.binds] at hall
  ·have e1:a'.tmps[1]?.getD undef= .pointer (some ⟨w.heap.size,0,none⟩):=Xbl ha (by simp)
   have hl:s'.getD 15 false=false:=Xae hcl [14,9,3,2,1,0] (by kernel_rfl) (by rfl) hun
   refine wpOp_step hoj (fun K' hK=> ?_)
   rw [if_pos (by rfl)]
   unfold Oper.wp
   simp [go_sem,e1,Oper.upon]
   exact hK _ _ ⟨x,Xad (d:=some 20) (v:=(.pointer (some ⟨w.heap.size,4,none⟩))) Xam ha rfl hun,hC.step hl (Qb _ _) (by decide) (by decide) (by decide)⟩
  ·have e20:a'.tmps[20]?.getD undef= .pointer (some ⟨w.heap.size,4,none⟩):=Xap (i:=0) Xam ha rfl (by first|simpa using hall|simpa using hall.1) (by simp)
   have c4':=Xaa (hC.bel (Xae hcl [14,9,3,2,1] (by kernel_rfl) (by rfl) hun)) c4
   have hl:s'.getD 15 false=false:=Xae hcl [14,9,3,2,1] (by kernel_rfl) (by rfl) hun
   refine wpOp_step hoj (fun K' hK=> ?_)
   rw [if_pos (by rfl)]
   unfold Oper.wp
   simp [go_sem,e20,c4',Oper.upon]
   exact hK _ _ ⟨x,Xad (d:=some 21) (v:=(S s.stream)) Xam ha rfl hun,hC.step hl (Qb _ _) (by decide) (by decide) (by decide)⟩
  ·have e21:a'.tmps[21]?.getD undef=S s.stream:=Xap (i:=1) Xam ha rfl (by first|simpa using hall|simpa using hall.1) (by simp)
   have hl:s'.getD 15 false=false:=Xae hcl [14,9,3,2] (by kernel_rfl) (by rfl) hun
   refine wpOp_step hoj (fun K' hK=> ?_)
   rw [if_pos (by rfl)]
   unfold Oper.wp
   simp [go_sem,e21,Oper.upon]
   exact hK _ _ ⟨x,Xad (d:=some 22) (v:=(.int .i64 (s.stream.length:Int))) Xam ha rfl hun,hC.step hl (Qb _ _) (by decide) (by decide) (by decide)⟩
  ·have e22:a'.tmps[22]?.getD undef= .int .i64 (s.stream.length:Int):=Xap (i:=2) Xam ha rfl (by first|simpa using hall|simpa using hall.1) (by simp)
   have hl:s'.getD 15 false=false:=Xae hcl [14,9,3] (by kernel_rfl) (by rfl) hun
   have hokw:=hok3.below (Qn _) (hC.bel hl)
   refine wpOp_step hoj (fun K' hK=> ?_)
   rw [if_pos (by rfl)]
   unfold Oper.wp
   simp [go_sem,e22,Oper.upon]
   refine (H4.out w' hokw).mono ?_
   rintro r4 w4 ⟨rfl,hb4⟩
   exact hK _ _ ⟨x,Xad (d:=some 23) (v:=(S p4)) Xam ha rfl hun,hC.step hl hb4 (by decide) (by decide) (by decide)⟩
  ·have e1:a'.tmps[1]?.getD undef= .pointer (some ⟨w.heap.size,0,none⟩):=Xbl ha (by simp)
   have hl:s'.getD 15 false=false:=Xae hcl [14,9,8,7,6,5,4] (by kernel_rfl) (by rfl) hun
   refine wpOp_step hoj (fun K' hK=> ?_)
   rw [if_pos (by rfl)]
   unfold Oper.wp
   simp [go_sem,e1,Oper.upon]
   exact hK _ _ ⟨x,Xad (d:=some 24) (v:=(.pointer (some ⟨w.heap.size,4,none⟩))) Xam ha rfl hun,hC.step hl (Qb _ _) (by decide) (by decide) (by decide)⟩
  ·have e24:a'.tmps[24]?.getD undef= .pointer (some ⟨w.heap.size,4,none⟩):=Xap (i:=4) Xam ha rfl (by first|simpa using hall|simpa using hall.1) (by simp)
   have c4':=Xaa (hC.bel (Xae hcl [14,9,8,7,6,5] (by kernel_rfl) (by rfl) hun)) c4
   have hl:s'.getD 15 false=false:=Xae hcl [14,9,8,7,6,5] (by kernel_rfl) (by rfl) hun
   refine wpOp_step hoj (fun K' hK=> ?_)
   rw [if_pos (by rfl)]
   unfold Oper.wp
   simp [go_sem,e24,c4',Oper.upon]
   exact hK _ _ ⟨x,Xad (d:=some 25) (v:=(S s.stream)) Xam ha rfl hun,hC.step hl (Qb _ _) (by decide) (by decide) (by decide)⟩
  ·have e25:a'.tmps[25]?.getD undef=S s.stream:=Xap (i:=5) Xam ha rfl (by first|simpa using hall|simpa using hall.1) (by simp)
   have hl:s'.getD 15 false=false:=Xae hcl [14,9,8,7,6] (by kernel_rfl) (by rfl) hun
   have ha:=ha.trans (Xmr (L:=sgL w.heap.size s.stream p4 sm p6 p7 u ao s.ents.length co x) (M:=sgL w.heap.size s.stream p4 sm p6 p7 u ao s.ents.length co (w'.heap.size,x.2)) 6 rfl (fun j hne=>by
    rcases j with _|_|_|_|_|_|_|j<;>first|rfl|(exact absurd rfl hne)|simp) hun)
   refine wpOp_step hoj (fun K' hK=> ?_)
   rw [if_pos (by rfl)]
   unfold Oper.wp
   simp [go_sem,e25,Oper.upon]
   refine hK _ _ ⟨(w'.heap.size,x.2),Xad (d:=some 26) (v:= .slice (some ⟨w'.heap.size,0,none⟩) 1 1) Xam ha rfl hun,hC.at1 hl ((Qb _ _).alloc (Qn _) _) (by decide) (by decide) (fun p hp=> ?_)⟩
   simp at hp
   subst hp
   simp
  ·have e26:a'.tmps[26]?.getD undef= .slice (some ⟨x.1,0,none⟩) 1 1:=Xap (i:=6) Xam ha rfl (by first|simpa using hall|simpa using hall.1) (by simp)
   have hcx:=hC.f1 (by first|simpa using hall|simpa using hall.1) (Xae hcl [14,9,8,7] (by kernel_rfl) (by rfl) hun) _ (List.mem_singleton.2 rfl)
   have hl:s'.getD 15 false=false:=Xae hcl [14,9,8,7] (by kernel_rfl) (by rfl) hun
   have hokw:=hok3.below (Qn _) (hC.bel hl)
   refine wpOp_step hoj (fun K' hK=> ?_)
   rw [if_pos (by rfl)]
   unfold Oper.wp
   simp [go_sem,e26,Oper.upon]
   refine (H5.out x.1 w' hcx (block_lt_of_cell hcx)).mono ?_
   rintro r4 w4 ⟨rfl,hb4⟩
   exact hK _ _ ⟨x,Xad (d:=some 27) (v:=(S sm)) Xam ha rfl hun,hC.step hl hb4 (by decide) (by decide) (by decide)⟩
  ·have e27:a'.tmps[27]?.getD undef=S sm:=Xap (i:=7) Xam ha rfl (by first|simpa using hall|simpa using hall.1) (by simp)
   have hl:s'.getD 15 false=false:=Xae hcl [14,9,8] (by kernel_rfl) (by rfl) hun
   have hokw:=hok3.below (Qn _) (hC.bel hl)
   refine wpOp_step hoj (fun K' hK=> ?_)
   rw [if_pos (by rfl)]
   unfold Oper.wp
   simp [go_sem,e27,Oper.upon]
   refine (H6.out w' hokw).mono ?_
   rintro r4 w4 ⟨rfl,hb4⟩
   exact hK _ _ ⟨x,Xad (d:=some 28) (v:=(S p6)) Xam ha rfl hun,hC.step hl hb4 (by decide) (by decide) (by decide)⟩
  ·have e23:a'.tmps[23]?.getD undef=S p4:=Xap (i:=3) Xam ha rfl (by simpa using hall.1) (by simp)
   have e28:a'.tmps[28]?.getD undef=S p6:=Xap (i:=8) Xam ha rfl (by first|simpa using hall.2|simpa using hall.2.1) (by simp)
   have hl:s'.getD 15 false=false:=Xae hcl [14,9] (by kernel_rfl) (by rfl) hun
   refine wpOp_step hoj (fun K' hK=> ?_)
   rw [if_pos (by rfl)]
   unfold Oper.wp
   simp [go_sem,e23,e28,d46,Oper.upon]
   exact hK _ _ ⟨x,Xad (d:=some 29) (v:=(S (p4++p6))) Xam ha rfl hun,hC.step hl (Qb _ _) (by decide) (by decide) (by decide)⟩
  ·have e1:a'.tmps[1]?.getD undef= .pointer (some ⟨w.heap.size,0,none⟩):=Xbl ha (by simp)
   have hl:s'.getD 15 false=false:=Xae hcl [14,13,12,11,10] (by kernel_rfl) (by rfl) hun
   refine wpOp_step hoj (fun K' hK=> ?_)
   rw [if_pos (by rfl)]
   unfold Oper.wp
   simp [go_sem,e1,Oper.upon]
   exact hK _ _ ⟨x,Xad (d:=some 30) (v:=(.pointer (some ⟨w.heap.size,3,none⟩))) Xam ha rfl hun,hC.step hl (Qb _ _) (by decide) (by decide) (by decide)⟩
  ·have e30:a'.tmps[30]?.getD undef= .pointer (some ⟨w.heap.size,3,none⟩):=Xap (i:=10) Xam ha rfl (by first|simpa using hall|simpa using hall.1) (by simp)
   have c3':=Xaa (hC.bel (Xae hcl [14,13,12,11] (by kernel_rfl) (by rfl) hun)) c3
   have hl:s'.getD 15 false=false:=Xae hcl [14,13,12,11] (by kernel_rfl) (by rfl) hun
   refine wpOp_step hoj (fun K' hK=> ?_)
   rw [if_pos (by rfl)]
   unfold Oper.wp
   simp [go_sem,e30,c3',Oper.upon]
   exact hK _ _ ⟨x,Xad (d:=some 31) (v:=(.slice ao s.ents.length co)) Xam ha rfl hun,hC.step hl (Qb _ _) (by decide) (by decide) (by decide)⟩
  ·have e31:a'.tmps[31]?.getD undef= .slice ao s.ents.length co:=Xap (i:=11) Xam ha rfl (by first|simpa using hall|simpa using hall.1) (by simp)
   have hl:s'.getD 15 false=false:=Xae hcl [14,13,12] (by kernel_rfl) (by rfl) hun
   refine wpOp_step hoj (fun K' hK=> ?_)
   rw [if_pos (by rfl)]
   unfold Oper.wp
   simp [go_sem,e31,Oper.upon]
   exact hK _ _ ⟨x,Xad (d:=some 32) (v:=(.int .i64 (s.ents.length:Int))) Xam ha rfl hun,hC.step hl (Qb _ _) (by decide) (by decide) (by decide)⟩
  ·have e32:a'.tmps[32]?.getD undef= .int .i64 (s.ents.length:Int):=Xap (i:=12) Xam ha rfl (by first|simpa using hall|simpa using hall.1) (by simp)
   have hl:s'.getD 15 false=false:=Xae hcl [14,13] (by kernel_rfl) (by rfl) hun
   have hokw:=hok3.below (Qn _) (hC.bel hl)
   refine wpOp_step hoj (fun K' hK=> ?_)
   rw [if_pos (by rfl)]
   unfold Oper.wp
   simp [go_sem,e32,Oper.upon]
   refine (H7.out w' hokw).mono ?_
   rintro r4 w4 ⟨rfl,hb4⟩
   exact hK _ _ ⟨x,Xad (d:=some 33) (v:=(S p7)) Xam ha rfl hun,hC.step hl hb4 (by decide) (by decide) (by decide)⟩
  ·have e29:a'.tmps[29]?.getD undef=S (p4++p6):=Xap (i:=9) Xam ha rfl (by simpa using hall.1) (by simp)
   have e33:a'.tmps[33]?.getD undef=S p7:=Xap (i:=13) Xam ha rfl (by first|simpa using hall.2|simpa using hall.2.1) (by simp)
   have hl:s'.getD 15 false=false:=Xae hcl [14] (by kernel_rfl) (by rfl) hun
   refine wpOp_step hoj (fun K' hK=> ?_)
   rw [if_pos (by rfl)]
   unfold Oper.wp
   simp [go_sem,e29,e33,d51,hu,Oper.upon]
   exact hK _ _ ⟨x,Xad (d:=some 34) (v:=(S u)) Xam ha rfl hun,hC.step hl (Qb _ _) (by decide) (by decide) (by decide)⟩
  ·have e34:a'.tmps[34]?.getD undef=S u:=Xap (i:=14) Xam ha rfl (by first|simpa using hall|simpa using hall.1) (by simp)
   have e3x:a'.tmps[3]?.getD undef= .pointer (some ⟨bl,0,none⟩):=Xbl ha (by simp)
   have hl:s'.getD 15 false=false:=Xan hun
   have hbx:=hC.bel hl
   refine wpOp_step hoj (fun K' hK=> ?_)
   rw [if_pos (by rfl)]
   unfold Oper.wp
   simp [go_sem,e34,e3x,Oper.upon]
   refine (Tryz.Builder_WriteString bl bl _ _ _ (Xat Hbd3.out hbx) (by rw [ByteArray.size_mk',List.size_toArray];simp [Lib.byteCells];omega) (by have:=hbx.size;omega)).mono ?_
   rintro r8 w8 ⟨rfl,hbd8,hb8⟩
   refine hK _ _ ⟨x,Xad (d:=some 35) (v:= .tuple #[.int .i64 (u.length:Int),.nilIface]) Xam ha rfl hun,QbC.end' hun ⟨Xbm (z:=sesK s 0) hbd8 Hh.out,hbd8.lt,w',hbx,hb8⟩⟩
 ·rintro x s' a' w8 hup ha hC
  obtain ⟨hbd8,hsz8,w7,hbA,hb8⟩:=hC.fin (hup 15 (by decide))
  rw [Xbb _ _ _ _ (fun i hi=>by rw [Nat.zero_add];exact hup i (by simpa using hi))] at ha
  subst ha
  simp only [fillAll,Act.put]
  subst hbl
  have Hbd8:=Qh hbd8
  have hok8:Ok I w8:=(hok3.below (Qn _) hbA).of_block fun b c hb=>hb8.block b (Nat.lt_of_not_le fun h=>by rw [hok1f b h] at hb;cases hb)
  have HB8:=Qh ((HB3.out.thru hbA).far hb8 hsz1)
  have hb8':=(hb3'.trans (hbA.mono hb3'.size)).trans (hb8.mono (Nat.le_of_lt hsz1))
  clear hC hup hbd8 hb8 hbA d46 d51 hul hu hok3 HB3 hb3' Hbd3 c0 c1 c2 c3 c4 c5 H4 H5 H6 H7 hsz3
  obtain ⟨c0,c1,c2,c3,c4,c5⟩:=HB8.out
  go_wp2_with fail
  clear c0 c1 c2 c3 c4 c5
  go_loopw [39] (fun s39 wr=> ∃k:Nat,k≤s.ents.length∧s39= .int .i64 k∧Lib.IsBuilder 71 5 w1.heap.size w1.heap.size (Lib.byteCells (sesK s k)) wr∧Ok I wr∧SesB wr w.heap.size s (.slice ao s.ents.length co)∧Below w.heap.size w wr∧w1.heap.size<wr.heap.size) (fun i _=>s.ents.length-(intOf i).toNat)
  case atStart=>exact ⟨0,Nat.zero_le _,rfl,Hbd8.out,hok8,HB8.out,hb8',hsz8⟩
  case round=>
   clear Hbd8 HB8 hb8' hok8 hsz8
   obtain ⟨k,hk,rfl,hbd,hwr,hBe,hb,hsz⟩:=hrel
   have Hbd:=Qh hbd
   have HBe:=Qh hBe
   have hkl:=Hkl.out k
   clear hbd hBe
   by_cases hlt:k<s.ents.length
   ·obtain ⟨x,vxa,vxx,b,off,cap',hlx,hvv,⟨x0,x1,x2,x3,x4,x5,x6⟩,h1,h2⟩:=Xe3 Hv.out hwr k hlt
    cases hvv
    obtain ⟨xa,xc,rfl,_,_,_⟩:=id h1
    obtain ⟨xx,xd,rfl,_,_,_⟩:=id h2
    have hmem:x∈s.ents:=by rw [←hlx];exact List.getElem_mem hlt
    have hxw:=Hg.out.wf x hmem
    have hxe:=Hg.out.exts x hmem
    have hx0:=Hg.out.err x hmem
    have hxo:=Xca hx0
    have hxp:=hxo.path
    have hxt:=hxo.target
    have Hst:=Qh (Xgn hlt hlx)
    have hba:Ok I (wr.alloc (.cells #[.int .i64 x.kind,S x.path,.slice xa x.attrs.length xc,S x.target,.int .i64 x.size,S x.digest,.slice xx x.exts.length xd] 35)):=hwr.alloc _
    have Hen:=Qh (fun w hw=>Xla I hI x _ _ h1 h2 hxw (by omega) (by omega) hxo hx0 (by omega) w hw)
    have hel:=Xf8 hxo (show x.exts.length≤1000 by omega)
    clear hlx h1 h2 hmem hx0 hxw hxo
    generalize encE x=y at Hst Hen hel
    generalize sesK s k=u at Hst Hbd hkl
    go_wp2_with fail
    refine (Hen.out _ hba).mono ?_
    rintro e1 w4 ⟨rfl,hb4⟩
    have hbA:Below wr.heap.size wr w4:=((Qb _ _).alloc (Qn _) (.cells #[.int .i64 x.kind,S x.path,.slice xa x.attrs.length xc,S x.target,.int .i64 x.size,S x.digest,.slice xx x.exts.length xd] 35)).trans (hb4.mono (by simp))
    have hbd4:=Xat Hbd.out hbA
    have hok4:Ok I w4:=hwr.below (Qn _) hbA
    have HB4:=Qh (HBe.out.thru hbA)
    have hsz4:=hbA.size
    have hb4':=hb.trans (hbA.mono hb.size)
    clear hb4 hbA Hbd HBe x0 x1 x2 x3 x4 x5 x6 Hen hba
    go_wp2_with fail
    refine (Tryz.Builder_WriteString w1.heap.size w1.heap.size _ _ _ hbd4 (by rw [ByteArray.size_mk',List.size_toArray];simp [Lib.byteCells];omega) (by omega)).mono ?_
    rintro e5 w5 ⟨rfl,hbd5,hb5⟩
    have hsz5:=hbd5.lt
    have Hbd5:=Qh (Xbm (z:=sesK s (k+1)) hbd5 Hst.out.symm)
    have hok5:Ok I w5:=hok4.of_block fun b c hb=>hb5.block b (Nat.lt_of_not_le fun h=>by rw [hok1f b h] at hb;cases hb)
    have HB5:=Qh (HB4.out.far hb5 hsz1)
    have hb5':=hb4'.trans (hb5.mono (Nat.le_of_lt hsz1))
    clear hbd4 hbd5 hb5 hb4' hok4 HB4
    go_wp2
    go_roundw
    case rel=>exact ⟨k+1,by omega,by go_num,Hbd5.out,hok5,HB5.out,hb5',hsz5⟩
    case measure=>simp [intOf];omega
   ·have Hn:=Qh (Xf3 s (k:=k) (by omega))
    rw [Hn.out] at Hbd hkl
    obtain ⟨u,hu⟩:∃u,sesText s=u:=⟨_,rfl⟩
    rw [hu] at Hbd hkl
    have Hu:=Qh (show T=sumP u by rw [←HT.out,hu])
    clear hu Hn
    go_wp2_with fail
    refine (Tryz.Builder_String_any w1.heap.size w1.heap.size _ _ Hbd.out (by omega)).mono ?_
    rintro e3 w5 ⟨rfl,hb5⟩
    have hb5':=hb.trans (hb5.mono (Nat.le_of_lt hsz1))
    have H6:=Qh (Xl5 w5.heap.size u (by omega) (w5.alloc (.cells #[S u] 9)) (by simp) (by simp))
    go_wp2_with fail
    refine H6.out.mono ?_
    rintro e6 w6 ⟨rfl,hb6⟩
    go_wp2
    go_ret
    rw [Hu.out]
    exact ⟨rfl,(hb5'.alloc hb5'.size _).trans (hb6.mono (by have:=hb5'.size;simp;omega))⟩
abbrev r39L (n:Nat) (num date:Int) (prev st p1 p2 p3 p4 sm p6 p7 v6 v10 v15 v21 v26:Bytes) (ao:Option Addr) (le co:Nat) (x:Nat × Nat):List (Option Tmp × Value):=
 [(some 7,.pointer (some ⟨n,0,none⟩)),(some 8,.int .i64 num),(some 9,S p1),(some 10,.pointer (some ⟨n,1,none⟩)),(some 11,.int .i64 date),(some 12,S p2),(some 13,S v6),(some 14,.pointer (some ⟨n,2,none⟩)),(some 15,S prev),(some 16,S p3),(some 17,S v10),(some 18,.pointer (some ⟨n,4,none⟩)),(some 19,S st),(some 20,.int .i64 (st.length:Int)),(some 21,S p4),(some 22,S v15),(some 23,.pointer (some ⟨n,4,none⟩)),(some 24,S st),(some 25,.slice (some ⟨x.1,0,none⟩) 1 1),(some 26,S sm),(some 27,S p6),(some 28,S v21),(some 29,.pointer (some ⟨n,3,none⟩)),(some 30,.slice ao le co),(some 31,.int .i64 (le:Int)),(some 32,S p7),(some 33,S v26),(some 3,S v26)]
abbrev arcV (ai dt sp:Int) (vs:Value):Value:= .agg #[.int .u32 ai,.int .i64 dt,.int .i64 sp,vs]
abbrev drV (d:Drf) (ve vk vt vh:Value):Value:= .agg #[.int .i64 d.num,.int .i64 d.date,S d.prev,ve,vk,.int .i64 d.sto.ses,S d.sto.str,vt,vh]
structure DrB (w:World) (n:Nat) (d:Drf) (ve vk vt vh:Value):Prop where
 c0:w.cell? ⟨n,0,none⟩=some (.int .i64 d.num)
 c1:w.cell? ⟨n,1,none⟩=some (.int .i64 d.date)
 c2:w.cell? ⟨n,2,none⟩=some (S d.prev)
 c3:w.cell? ⟨n,3,none⟩=some ve
 c4:w.cell? ⟨n,4,none⟩=some vk
 c5:w.cell? ⟨n,5,none⟩=some (.int .i64 d.sto.ses)
 c6:w.cell? ⟨n,6,none⟩=some (S d.sto.str)
 c7:w.cell? ⟨n,7,none⟩=some vt
 c8:w.cell? ⟨n,8,none⟩=some vh
theorem DrB.thru {w w':World} {b:Nat} {d:Drf} {ve vk vt vh:Value} (h:DrB w b d ve vk vt vh) (hb:Below w.heap.size w w'):DrB w' b d ve vk vt vh:=
 ⟨Xaa hb h.c0,Xaa hb h.c1,Xaa hb h.c2,Xaa hb h.c3,Xaa hb h.c4,Xaa hb h.c5,Xaa hb h.c6,Xaa hb h.c7,Xaa hb h.c8⟩
theorem DrB.past {w:World} {b:Nat} {d:Drf} {ve vk vt vh:Value} (h:DrB w b d ve vk vt vh) (x:Obj):DrB (w.alloc x) b d ve vk vt vh:=
 ⟨Xab x h.c0,Xab x h.c1,Xab x h.c2,Xab x h.c3,Xab x h.c4,Xab x h.c5,Xab x h.c6,Xab x h.c7,Xab x h.c8⟩
theorem drB_row {w:World} {b:Nat} {d:Drf} {ve vk vt vh:Value} {t:TypeId} (h:w.heap[b]? =some (.cells #[.int .i64 d.num,.int .i64 d.date,S d.prev,ve,vk,.int .i64 d.sto.ses,S d.sto.str,vt,vh] t (0,0))):DrB w b d ve vk vt vh:=
 ⟨(cell_of_row w b 0 _ _ _ h).trans rfl,(cell_of_row w b 1 _ _ _ h).trans rfl,(cell_of_row w b 2 _ _ _ h).trans rfl,(cell_of_row w b 3 _ _ _ h).trans rfl,(cell_of_row w b 4 _ _ _ h).trans rfl,(cell_of_row w b 5 _ _ _ h).trans rfl,(cell_of_row w b 6 _ _ _ h).trans rfl,(cell_of_row w b 7 _ _ _ h).trans rfl,(cell_of_row w b 8 _ _ _ h).trans rfl⟩
theorem ArcOk.sesD {n m:Nat} {L:List Ses} (h:ArcOk n m L) (hn:n≤5000) (hm:m≤254):∀x∈L,SesD x:=fun x hx=>by
 obtain ⟨k,hk,e⟩:=List.getElem_of_mem hx
 have hs:=h.at_ hk e
 have hl:=h.len
 exact ⟨by rw [hs.num];omega,hs.date,hs.prev,hs.stream,Nat.le_trans (h.ents hx) hn,h.err hx,fun e he=>Xgg (h.err hx e he),hs.exts⟩
theorem last_cases (L:List Ses):L= []∨ ∃k,∃hk:k<L.length,L.length=k+1∧L.getLast? =some L[k]:=by
 rcases Nat.eq_zero_or_pos L.length with h|h
 ·exact .inl (List.eq_nil_of_length_eq_zero h)
 ·refine .inr ⟨L.length-1,by omega,by omega,?_⟩
  rw [List.getLast?_eq_getElem?,List.getElem?_eq_getElem (by omega)]
set_option maxRecDepth 100000 in
set_option maxHeartbeats 1000000 in
theorem Xgj (I:IH) (hI:Glob I) (ai dt sp:Int) (L:List Ses) (vs:Value) (hvs:RdS tSes I vs L) (hL:∀x∈L,SesD x) (w:World) (hw:Ok I w):
 Calls Tryz.prog 75 #[arcV ai dt sp vs] w fun e w'=>e= .returned (S (lastDig L))∧Below w.heap.size w w':=by
 obtain ⟨ao,co,rfl,_,_,_⟩:=id hvs
 rcases last_cases L with rfl|⟨k,hk,hlen,hlast⟩
 ·go_enter Tryz.func75,Tryz.ntmps75
  go_wp2
  go_ret
  exact ⟨rfl,(Qb _ _).alloc (Qn _) _⟩
 ·have Hn:=Qh (show lastDig L=sumP (sesText L[k]) by unfold lastDig;rw [hlast])
  obtain ⟨x,ve,b,off,cap',hlx,hvv,hat,hve⟩:=Xpx hvs (hw.alloc (.cells #[.int .u32 ai,.int .i64 dt,.int .i64 sp,.slice ao L.length co] 46)) k hk
  cases hvv
  obtain ⟨c0,c1,c2,c3,c4,c5⟩:=hat
  have Hd:=Qh (fun w hw=>Xps I hI x ve hve (hL x (by rw [←hlx];exact List.getElem_mem hk)) w hw)
  rw [hlx] at Hn
  have m1:IntKind.i64.wrap (k:Int)=(k:Int):=IntWalk.i64_in _ (by have:=hvs.len_le;omega)
  have z1:(((k+1:Nat):Int)==0)=false:=by simp;omega
  have i1:(k:Int)<((k+1:Nat):Int):=by omega
  rw [Hn.out]
  rw [hlen] at c0 c1 c2 c3 c4 c5 ⊢
  clear hvs hlx hlast hlen hve Hn
  go_enter Tryz.func75,Tryz.ntmps75
  go_wp2_with fail
  refine (Hd.out _ (hw.alloc _)).mono ?_
  rintro e w1 ⟨rfl,hb1⟩
  go_wp2
  go_ret
  exact ⟨rfl,((Qb _ _).alloc (Qn _) _).trans (hb1.mono (by simp))⟩
set_option maxRecDepth 100000 in
set_option maxHeartbeats 1000000 in
theorem Xgk (I:IH) (ai dt sp:Int) (L:List Ses) (vs:Value) (hvs:RdS tSes I vs L) (w:World) (hw:Ok I w):
 Calls Tryz.prog 73 #[arcV ai dt sp vs] w fun e w'=>e= .returned (.int .i64 (lastDt L))∧Below w.heap.size w w':=by
 obtain ⟨ao,co,rfl,_,_,_⟩:=id hvs
 rcases last_cases L with rfl|⟨k,hk,hlen,hlast⟩
 ·go_enter Tryz.func73,Tryz.ntmps73
  go_wp2
  go_ret
  exact ⟨rfl,(Qb _ _).alloc (Qn _) _⟩
 ·have Hn:=Qh (show lastDt L=L[k].date by unfold lastDt;rw [hlast])
  obtain ⟨x,ve,b,off,cap',hlx,hvv,hat,hve⟩:=Xpx hvs (hw.alloc (.cells #[.int .u32 ai,.int .i64 dt,.int .i64 sp,.slice ao L.length co] 46)) k hk
  cases hvv
  obtain ⟨c0,c1,c2,c3,c4,c5⟩:=hat
  rw [hlx] at Hn
  have m1:IntKind.i64.wrap (k:Int)=(k:Int):=IntWalk.i64_in _ (by have:=hvs.len_le;omega)
  have z1:(((k+1:Nat):Int)==0)=false:=by simp;omega
  have i1:(k:Int)<((k+1:Nat):Int):=by omega
  rw [Hn.out]
  rw [hlen] at c0 c1 c2 c3 c4 c5 ⊢
  clear hvs hlx hlast hlen hve Hn
  go_enter Tryz.func73,Tryz.ntmps73
  go_wp2
  go_ret
  exact ⟨rfl,(Qb _ _).alloc (Qn _) _⟩
set_option maxRecDepth 100000 in
set_option maxHeartbeats 4000000 in
theorem Xwl (I:IH) (hI:Glob I) (id:Nat) (hid:id<4294967296) (dt sp:Int) {n m:Nat} (L:List Ses) (h:ArcOk n m L) (hd:ArcD L) (hm:m≤8) (vs:Value) (hvs:RdS tSes I vs L) (w:World) (hw:Ok I w):
 Calls Tryz.prog 15 #[arcV id dt sp vs] w (RetL tRec I w (recsOfS id L) 0):=by
 have hlen:=h.len
 have HA:=Qh h
 have HD:=Qh hd
 have HG:=Qh hI
 have Hvs:=Qh hvs
 have Hnum:=Qh (show ∀(k:Nat) (x:Ses),L[k]? =some x→x.num=(k:Int)+1 from fun k x hx=>(h.ses k x hx).num)
 obtain ⟨so,sc,rfl,_,_,_⟩:=_root_.id hvs
 obtain ⟨W1,hW1⟩:∃W1,w.alloc (.cells #[.int .u32 id,.int .i64 dt,.int .i64 sp,.slice so L.length sc] 46)=W1:=⟨_,rfl⟩
 have A1:MAt I w I W1:=by rw [←hW1];exact (MAt.start hw).past _
 have hrow:W1.heap[w.heap.size]? =some (.cells #[.int .u32 id,.int .i64 dt,.int .i64 sp,.slice so L.length sc] 46 (0,0)):=by rw [←hW1];exact heap_alloc_new _ _
 have z0:W1.cell? ⟨w.heap.size,0,none⟩=some (.int .u32 id):=(cell_of_row _ _ 0 _ _ _ hrow).trans rfl
 have z3:W1.cell? ⟨w.heap.size,3,none⟩=some (.slice so L.length sc):=(cell_of_row _ _ 3 _ _ _ hrow).trans rfl
 have HS1:=Qh (show W1.heap.size=w.heap.size+1 by rw [←hW1];simp)
 have M1:=Qh A1
 have Z0:=Qh z0
 clear h hd hI hvs A1 hrow z0
 have M2:=M1
 have Y0:=Z0
 have R0:=Qh (show RdS tRec I (.slice none 0 0) (recsOfS id []) from RdS.nil _ _)
 clear M1 Z0
 go_enter Tryz.func15,Tryz.ntmps15
 go_wp2_with fail
 clear hW1
 go_loopw [4,6,7,8,12] (fun s4 _ _ _ s12 wr=> ∃(k:Nat) (J:IH),k≤L.length∧s12= .int .i64 k∧MAt I w J wr∧Ext w.heap.size I J∧wr.cell? ⟨w.heap.size,0,none⟩=some (.int .u32 id)∧w.heap.size<wr.heap.size∧RdS tRec J s4 (recsOfS id (L.take k))) (fun _ _ _ _ i _=>L.length-(intOf i).toNat)
 case atStart=>exact ⟨0,I,Nat.zero_le _,rfl,M2.out,Ext.refl _ _,Y0.out,(by have:=HS1.out;first|omega|(simp;omega)),by rw [List.take_zero];exact R0.out⟩
 case round=>
  clear M2 Y0 R0
  obtain ⟨k,J,hk,rfl,hM,hx,hz,hlt0,hr⟩:=hrel
  have M:=Qh hM
  have Hx:=Qh hx
  have Hr:=Qh hr
  clear hM hx hr
  by_cases hlt:k<L.length
  ·obtain ⟨x,ve,b,off,cap',hlx,hvv,⟨c0,c1,c2,c3,c4,c5⟩,h1⟩:=Xpx (Hvs.out.mono M.out.keep) M.out.ok k hlt
   cases hvv
   obtain ⟨eo,ec,rfl,_,_,_⟩:=_root_.id h1
   obtain ⟨q1,q2,q3⟩:=Xrw HA.out HD.out (by omega) hlt hlx
   have hdd:dirDig x=(sumP (sesText x),0):=by unfold dirDig;rw [if_neg (by rw [q2];simp)]
   have Hdi:=Qh (fun w hw=>Xo0 J (HG.out.mono M.out.keep) x _ h1 q1 w hw)
   rw [hdd] at Hdi
   have Hst:=Qh ((Xkh (id:=id) Hnum.out (by omega) hlt hlx).1)
   have hnum1:1≤x.num∧x.num≤255:=by omega
   have Hrw:=Qh (Xi7 hid (L:=L.take k) fun y hy=>by
    obtain ⟨i,hi⟩:=List.getElem?_of_mem hy
    rw [List.getElem?_take] at hi
    split at hi
    ·have:=Hnum.out i y hi;omega
    ·cases hi)
   have hrl:(recsOfS id (L.take k)).length≤8:=by unfold recsOfS;rw [List.length_map,List.length_take];omega
   have Hrx:=Qh (show (recOfS id x).Wf from Xi7 hid (L:= [x]) (fun y hy=>by rw [List.mem_singleton.1 hy];exact hnum1) _ (List.mem_singleton.2 rfl))
   have MA:=Qh (M.out.past (.cells #[.int .i64 x.num,.int .i64 x.date,S x.prev,.slice eo x.ents.length ec,S x.stream,S x.sl] 62))
   have SB:=Qh (sesB (W:=wr) (s:=x) (ve:= .slice eo x.ents.length ec) (t:=62) rfl (Qb _ _))
   have Hz:=Qh (Xab (.cells #[.int .i64 x.num,.int .i64 x.date,S x.prev,.slice eo x.ents.length ec,S x.stream,S x.sl] 62) hz)
   obtain ⟨n8,hn8⟩:∃n8,wr.heap.size=n8:=⟨_,rfl⟩
   rw [hn8] at SB
   obtain ⟨dg,hdg⟩:∃dg,sumP (sesText x)=dg:=⟨_,rfl⟩
   have hrv:recOfS id x=⟨id,x.num,dg⟩:=by unfold recOfS;rw [hdg]
   rw [hdg] at Hdi
   rw [hrv] at Hst Hrx
   have e0:((0:Int) != 0)=false:=rfl
   clear hlx h1 q1 q2 q3 hdd M hz hdg hrv hnum1
   go_upto_region 5 with fail
   obtain ⟨WA,hWA⟩:∃WA,wr.alloc (.cells #[.int .i64 x.num,.int .i64 x.date,S x.prev,.slice eo x.ents.length ec,S x.stream,S x.sl] 62)=WA:=⟨_,rfl⟩
   rw [hWA] at MA SB Hz ⊢
   have hlA:=MA.out.size
   have hltA:w.heap.size<WA.heap.size:=by rw [←hWA];simp;omega
   clear hWA hn8 c0 c1 c2 c3 c4 c5
   obtain ⟨c0,c1,c2,c3,c4,c5⟩:=SB.out
   go_wp2_with fail
   refine (Hdi.out _ MA.out.ok).mono ?_
   rintro e5 w5 ⟨rfl,hb5⟩
   have M5:=Qh (MA.out.quiet hb5)
   have SB5:=Qh (SB.out.thru hb5)
   have z0:=Xaa hb5 Hz.out
   have d0:=SB5.out.c0
   have hl5:=hb5.size
   have Hz5:=Qh z0
   clear c0 c1 c2 c3 c4 c5 hb5 MA SB Hz Hdi
   go_wp2_with fail
   refine (Xrr J (HG.out.mono M5.out.keep) _ _ Hr.out Hrw.out (by omega) ⟨id,x.num,dg⟩ Hrx.out _ M5.out.ok).mono ?_
   rw [Hst.out]
   rintro e6 w6 ⟨v6,J6,rfl,hb6,hx6,hok6,hr6⟩
   have M6:=Qh (M5.out.ext hb6 hx6 hok6)
   have Hx6:=Qh (Hx.out.trans hx6 M5.out.size)
   have Hz6:=Qh (Xaa hb6 Hz5.out)
   have hl6:=hb6.size
   clear hb6 hx6 hok6 z0 d0 M5 Hx Hz5
   dsimp only
   go_wp2
   go_roundw
   case rel=>exact ⟨k+1,J6,by omega,by go_num,M6.out,Hx6.out,Hz6.out,by omega,hr6⟩
   case measure=>simp [intOf];omega
  ·have hkl:k=L.length:=by omega
   subst hkl
   rw [List.take_length] at Hr
   go_wp2
   go_ret2
   exact ⟨_,J,rfl,M.out.bel,Hx.out,M.out.ok,Hr.out⟩
set_option maxRecDepth 100000 in
set_option maxHeartbeats 4000000 in
theorem Xst (I:IH) (hI:Glob I) (id:Nat) (hid:id<4294967296) (dt sp:Int) {n m:Nat} (L:List Ses) (h:ArcOk n m L) (hd:ArcD L) (hm:m≤8) (vs:Value) (hvs:RdS tSes I vs L) (w:World) (hw:Ok I w):
 Calls Tryz.prog 16 #[arcV id dt sp vs] w (RetL tRec I w (recsOfS id L) 0):=by
 have hlen:=h.len
 have HA:=Qh h
 have HD:=Qh hd
 have HG:=Qh hI
 have Hvs:=Qh hvs
 have Hnum:=Qh (show ∀(k:Nat) (x:Ses),L[k]? =some x→x.num=(k:Int)+1 from fun k x hx=>(h.ses k x hx).num)
 obtain ⟨so,sc,rfl,_,_,_⟩:=_root_.id hvs
 obtain ⟨W1,hW1⟩:∃W1,w.alloc (.cells #[.int .u32 id,.int .i64 dt,.int .i64 sp,.slice so L.length sc] 46)=W1:=⟨_,rfl⟩
 have A1:MAt I w I W1:=by rw [←hW1];exact (MAt.start hw).past _
 have hrow:W1.heap[w.heap.size]? =some (.cells #[.int .u32 id,.int .i64 dt,.int .i64 sp,.slice so L.length sc] 46 (0,0)):=by rw [←hW1];exact heap_alloc_new _ _
 have z0:W1.cell? ⟨w.heap.size,0,none⟩=some (.int .u32 id):=(cell_of_row _ _ 0 _ _ _ hrow).trans rfl
 have z3:W1.cell? ⟨w.heap.size,3,none⟩=some (.slice so L.length sc):=(cell_of_row _ _ 3 _ _ _ hrow).trans rfl
 have HS1:=Qh (show W1.heap.size=w.heap.size+1 by rw [←hW1];simp)
 have M1:=Qh A1
 have Z0:=Qh z0
 clear h hd hI hvs A1 hrow z0
 have M2:=Qh (M1.out.past (.cells #[] 57))
 have Y0:=Qh (Xab (.cells #[] 57) Z0.out)
 have y3:=Xab (.cells #[] 57) z3
 have R0:=Qh (show RdS tRec I (.slice (some ⟨W1.heap.size,0,none⟩) 0 0) (recsOfS id []) from ⟨_,0,rfl,Qn _,Nat.zero_le _,fun h=>absurd h (by simp [recsOfS])⟩)
 clear M1 Z0
 go_enter Tryz.func16,Tryz.ntmps16
 go_wp2_with fail
 clear hW1
 go_loopw [4,6,7,8,13] (fun s4 _ _ _ s12 wr=> ∃(k:Nat) (J:IH),k≤L.length∧s12= .int .i64 k∧MAt I w J wr∧Ext w.heap.size I J∧wr.cell? ⟨w.heap.size,0,none⟩=some (.int .u32 id)∧w.heap.size<wr.heap.size∧RdS tRec J s4 (recsOfS id (L.take k))) (fun _ _ _ _ i _=>L.length-(intOf i).toNat)
 case atStart=>exact ⟨0,I,Nat.zero_le _,rfl,M2.out,Ext.refl _ _,Y0.out,(by have:=HS1.out;first|omega|(simp;omega)),by rw [List.take_zero];exact R0.out⟩
 case round=>
  clear M2 Y0 R0
  obtain ⟨k,J,hk,rfl,hM,hx,hz,hlt0,hr⟩:=hrel
  have M:=Qh hM
  have Hx:=Qh hx
  have Hr:=Qh hr
  clear hM hx hr
  by_cases hlt:k<L.length
  ·obtain ⟨x,ve,b,off,cap',hlx,hvv,⟨c0,c1,c2,c3,c4,c5⟩,h1⟩:=Xpx (Hvs.out.mono M.out.keep) M.out.ok k hlt
   cases hvv
   obtain ⟨eo,ec,rfl,_,_,_⟩:=_root_.id h1
   obtain ⟨q1,q2,q3⟩:=Xrw HA.out HD.out (by omega) hlt hlx
   have hdd:dirDig x=(sumP (sesText x),0):=by unfold dirDig;rw [if_neg (by rw [q2];simp)]
   have Hdi:=Qh (fun w hw=>Xi6 J x _ h1 q1 w hw)
   rw [hdd] at Hdi
   have Hst:=Qh ((Xkh (id:=id) Hnum.out (by omega) hlt hlx).2)
   have hnum1:1≤x.num∧x.num≤255:=by omega
   have Hrw:=Qh (Xi7 hid (L:=L.take k) fun y hy=>by
    obtain ⟨i,hi⟩:=List.getElem?_of_mem hy
    rw [List.getElem?_take] at hi
    split at hi
    ·have:=Hnum.out i y hi;omega
    ·cases hi)
   have hrl:(recsOfS id (L.take k)).length≤8:=by unfold recsOfS;rw [List.length_map,List.length_take];omega
   have Hrx:=Qh (show (recOfS id x).Wf from Xi7 hid (L:= [x]) (fun y hy=>by rw [List.mem_singleton.1 hy];exact hnum1) _ (List.mem_singleton.2 rfl))
   have MA:=Qh (M.out.past (.cells #[.int .i64 x.num,.int .i64 x.date,S x.prev,.slice eo x.ents.length ec,S x.stream,S x.sl] 62))
   have SB:=Qh (sesB (W:=wr) (s:=x) (ve:= .slice eo x.ents.length ec) (t:=62) rfl (Qb _ _))
   have Hz:=Qh (Xab (.cells #[.int .i64 x.num,.int .i64 x.date,S x.prev,.slice eo x.ents.length ec,S x.stream,S x.sl] 62) hz)
   obtain ⟨n8,hn8⟩:∃n8,wr.heap.size=n8:=⟨_,rfl⟩
   rw [hn8] at SB
   obtain ⟨dg,hdg⟩:∃dg,sumP (sesText x)=dg:=⟨_,rfl⟩
   have hrv:recOfS id x=⟨id,x.num,dg⟩:=by unfold recOfS;rw [hdg]
   rw [hdg] at Hdi
   rw [hrv] at Hst Hrx
   have e0:((0:Int) != 0)=false:=rfl
   clear hlx h1 q1 q2 q3 hdd M hz hdg hrv hnum1
   go_upto_region 5 with fail
   obtain ⟨WA,hWA⟩:∃WA,wr.alloc (.cells #[.int .i64 x.num,.int .i64 x.date,S x.prev,.slice eo x.ents.length ec,S x.stream,S x.sl] 62)=WA:=⟨_,rfl⟩
   rw [hWA] at MA SB Hz ⊢
   have hlA:=MA.out.size
   have hltA:w.heap.size<WA.heap.size:=by rw [←hWA];simp;omega
   clear hWA hn8 c0 c1 c2 c3 c4 c5
   obtain ⟨c0,c1,c2,c3,c4,c5⟩:=SB.out
   go_wp2_with fail
   refine (Hdi.out _ MA.out.ok).mono ?_
   rintro e5 w5 ⟨rfl,hb5⟩
   have M5:=Qh (MA.out.quiet hb5)
   have SB5:=Qh (SB.out.thru hb5)
   have z0:=Xaa hb5 Hz.out
   have d0:=SB5.out.c0
   have hl5:=hb5.size
   have Hz5:=Qh z0
   clear c0 c1 c2 c3 c4 c5 hb5 MA SB Hz Hdi
   go_wp2_with fail
   refine (Xp3 J _ _ Hr.out Hrw.out (by omega) ⟨id,x.num,dg⟩ Hrx.out _ M5.out.ok).mono ?_
   rw [Hst.out]
   rintro e6 w6 ⟨v6,J6,rfl,hb6,hx6,hok6,hr6⟩
   have M6:=Qh (M5.out.ext hb6 hx6 hok6)
   have Hx6:=Qh (Hx.out.trans hx6 M5.out.size)
   have Hz6:=Qh (Xaa hb6 Hz5.out)
   have hl6:=hb6.size
   clear hb6 hx6 hok6 z0 d0 M5 Hx Hz5
   dsimp only
   go_wp2
   go_roundw
   case rel=>exact ⟨k+1,J6,by omega,by go_num,M6.out,Hx6.out,Hz6.out,by omega,hr6⟩
   case measure=>simp [intOf];omega
  ·have hkl:k=L.length:=by omega
   subst hkl
   rw [List.take_length] at Hr
   go_wp2
   go_ret2
   exact ⟨_,J,rfl,M.out.bel,Hx.out,M.out.ok,Hr.out⟩
theorem Xgl:(Tryz.prog.info? 129).map (fun i=>(i.zero,i.size,i.bytes))=some (some (.agg #[.string ⟨#[]⟩,.string ⟨#[]⟩]),2,32):=by kernel_rfl
set_option maxRecDepth 100000 in
set_option maxHeartbeats 400000 in
theorem Xn9 (I:IH) (v:Value) (l:List _) (hv:RdS tAt I v l) (w:World) (hw:Ok I w) (hbig:l.length*32≤140737488355328):
 Calls Tryz.prog 206 #[v] w fun e w'=> ∃v',e= .returned v'∧OwnS tAt 129 I w' w.heap.size v' l∧Below w.heap.size w w':=by
 obtain ⟨i0,hi,hz0,hz1,hz2⟩:=info_parts Xgl
 have q22:∀(w:World) (a:Option Addr) (n c n' c':Nat),(binOp .eql 32 (.slice a n c) (.slice none n' c')).run Tryz.prog w= .ok (.bool a.isNone) w:=fun w a n c n' c'=>Lib.run_eql_slice_nil w _ _ a n c n' c' Tryz.underlying32
 obtain ⟨ao,cap,xs,rfl,hcap,hcm,hL,hx⟩:=hv.cells hw (by decide)
 have HL:=Qh hL
 have Hx:=Qh hx
 clear hL hx hv
 cases ao with
 |none=>
  have h0:l.length=0:=by
   rcases Nat.eq_zero_or_pos l.length with h|h
   ·exact h
   ·obtain ⟨b,off,arr,e,_⟩:=Hx.out h;cases e
  have:l= []:=List.eq_nil_of_length_eq_zero h0
  subst this
  go_enter Tryz.func206,Tryz.ntmps206
  go_wp2
  go_ret
  exact ⟨_,rfl,OwnS.nil _ _ _ _ _,Qb _ _⟩
 |some a=>
  go_enter Tryz.func206,Tryz.ntmps206
  go_wp2_with (at_builtin;refine wpList_append_own _ rfl _ _ 32 rfl w.heap.size 129 i0 _ 2 32 Tryz.underlying32 hi hz0 hz1 hz2 rfl (by decide) _ _ _ rfl (World.ownsRow_made w #[] 0 (Qn _) (Nat.zero_le _) (by simp)) a l.length cap xs rfl ?qc1 ?qc2 ?qc3 ?qc4 ?qc5 ?qc6 ?_)
  case qc1=>exact HL.out.1
  case qc2=>
   intro j u hj
   have hl:0<l.length:=by
    have:=(List.getElem?_eq_some_iff.1 hj).1
    rw [HL.out.1] at this
    rcases Nat.eq_zero_or_pos l.length with h|h
    ·rw [h] at this;omega
    ·exact h
   obtain ⟨b,off,arr,e,_,hb,hc⟩:=Hx.out hl
   cases e
   rw [Addr.add_lit]
   rw [World.cell?_alloc_lt _ _ _ hb]
   exact hc j u hj
  case qc3=>exact HL.out.oneCell
  case qc4=>rw [Nat.zero_add];omega
  case qc5=>rw [Nat.zero_add];exact hbig
  case qc6=>simp
  intro v' w1 hown hgrow _
  go_wp2
  go_ret
  refine ⟨v',rfl,⟨xs,(by have hq:=hown;first|exact hq|(simp at hq;exact hq)),HL.out⟩,?_⟩
  exact ((Qb _ w).alloc (Qn _) _).grown hgrow (by simp) (by intro k hk;simp [Value.ownBlock] at hk;omega)
theorem Xdd:(Tryz.prog.info? 62).map (fun i=>(i.zero,i.size,i.bytes))=some (some (.agg #[.int .i64 0,.int .i64 0,.string ⟨#[]⟩,.slice none 0 0,.string ⟨#[]⟩,.string ⟨#[]⟩]),6,88):=by kernel_rfl
set_option maxRecDepth 100000 in
set_option maxHeartbeats 400000 in
theorem Xl6 (I:IH) (v:Value) (l:List _) (hv:RdS tSes I v l) (w:World) (hw:Ok I w) (hbig:l.length*88≤140737488355328):
 Calls Tryz.prog 81 #[v] w fun e w'=> ∃v',e= .returned v'∧OwnS tSes 62 I w' w.heap.size v' l∧Below w.heap.size w w':=by
 obtain ⟨i0,hi,hz0,hz1,hz2⟩:=info_parts Xdd
 have q22:∀(w:World) (a:Option Addr) (n c n' c':Nat),(binOp .eql 22 (.slice a n c) (.slice none n' c')).run Tryz.prog w= .ok (.bool a.isNone) w:=fun w a n c n' c'=>Lib.run_eql_slice_nil w _ _ a n c n' c' Tryz.underlying22
 obtain ⟨ao,cap,xs,rfl,hcap,hcm,hL,hx⟩:=hv.cells hw (by decide)
 have HL:=Qh hL
 have Hx:=Qh hx
 clear hL hx hv
 cases ao with
 |none=>
  have h0:l.length=0:=by
   rcases Nat.eq_zero_or_pos l.length with h|h
   ·exact h
   ·obtain ⟨b,off,arr,e,_⟩:=Hx.out h;cases e
  have:l= []:=List.eq_nil_of_length_eq_zero h0
  subst this
  go_enter Tryz.func81,Tryz.ntmps81
  go_wp2
  go_ret
  exact ⟨_,rfl,OwnS.nil _ _ _ _ _,Qb _ _⟩
 |some a=>
  go_enter Tryz.func81,Tryz.ntmps81
  go_wp2_with (at_builtin;refine wpList_append_own _ rfl _ _ 22 rfl w.heap.size 62 i0 _ 6 88 Tryz.underlying22 hi hz0 hz1 hz2 rfl (by decide) _ _ _ rfl (World.ownsRow_made w #[] 0 (Qn _) (Nat.zero_le _) (by simp)) a l.length cap xs rfl ?qc1 ?qc2 ?qc3 ?qc4 ?qc5 ?qc6 ?_)
  case qc1=>exact HL.out.1
  case qc2=>
   intro j u hj
   have hl:0<l.length:=by
    have:=(List.getElem?_eq_some_iff.1 hj).1
    rw [HL.out.1] at this
    rcases Nat.eq_zero_or_pos l.length with h|h
    ·rw [h] at this;omega
    ·exact h
   obtain ⟨b,off,arr,e,_,hb,hc⟩:=Hx.out hl
   cases e
   rw [Addr.add_lit]
   rw [World.cell?_alloc_lt _ _ _ hb]
   exact hc j u hj
  case qc3=>exact HL.out.oneCell
  case qc4=>rw [Nat.zero_add];omega
  case qc5=>rw [Nat.zero_add];exact hbig
  case qc6=>simp
  intro v' w1 hown hgrow _
  go_wp2
  go_ret
  refine ⟨v',rfl,⟨xs,(by have hq:=hown;first|exact hq|(simp at hq;exact hq)),HL.out⟩,?_⟩
  exact ((Qb _ w).alloc (Qn _) _).grown hgrow (by simp) (by intro k hk;simp [Value.ownBlock] at hk;omega)
theorem Xu4 (t:List Ent) (p:Bytes):(getE t p).2=(getT t p).isSome:=by
 unfold getE
 cases getT t p<;>rfl
set_option maxRecDepth 100000 in
set_option maxHeartbeats 4000000 in
theorem Xj3 (I:IH) (hI:Glob I) (d:Drf) (ve vk vt vh:Value) (hvt:RdS tEnt I vt d.tree) (hvh:RdS tHo I vh d.holds) (hk:HOk d.holds) (hnh:d.holds.length≤100000) (e:Ent) (va vx:Value) (hva:RdS tAt I va e.attrs) (hvx:RdS tXt I vx e.exts) (hk1:1≤e.kind) (hpl:e.path.length≤4294967280) (w:World) (hw:Ok I w):
 Calls Tryz.prog 136 #[drV d ve vk vt vh,entV e va vx] w fun r w'=>r= .returned (.int .i64 (askP d.stt e d.date))∧Below w.heap.size w w':=by
 obtain ⟨ye,bx,hg⟩:∃ye bx,getE d.tree e.path=(ye,bx):=⟨_,_,rfl⟩
 have Hg:=Qh (fun w hw=>(by have:=Xub I vt d.tree hvt e.path w hw;rwa [hg] at this:Calls Tryz.prog 172 #[vt,S e.path] w (RetG I w (ye,bx))))
 have Hal:=Qh (fun w hw=>Xob I hI vh d.holds hvh hk hnh e va vx hva hvx hpl d.date w hw)
 obtain ⟨at',ct,rfl,_,_,_⟩:=id hvt
 obtain ⟨ah,ch,rfl,_,_,_⟩:=id hvh
 obtain ⟨aa,ca,rfl,_,_,_⟩:=id hva
 obtain ⟨ax,cx,rfl,_,_,_⟩:=id hvx
 have DB:=Qh (show DrB ((w.alloc (.cells #[.int .i64 d.num,.int .i64 d.date,S d.prev,ve,vk,.int .i64 d.sto.ses,S d.sto.str,.slice at' d.tree.length ct,.slice ah d.holds.length ch] 92)).alloc (.cells #[.int .i64 e.kind,S e.path,.slice aa e.attrs.length ca,S e.target,.int .i64 e.size,S e.digest,.slice ax e.exts.length cx] 35)) w.heap.size d ve vk (.slice at' d.tree.length ct) (.slice ah d.holds.length ch) from (drB_row (heap_alloc_new _ _)).past _)
 have EB:=Qh (show EntB ((w.alloc (.cells #[.int .i64 d.num,.int .i64 d.date,S d.prev,ve,vk,.int .i64 d.sto.ses,S d.sto.str,.slice at' d.tree.length ct,.slice ah d.holds.length ch] 92)).alloc (.cells #[.int .i64 e.kind,S e.path,.slice aa e.attrs.length ca,S e.target,.int .i64 e.size,S e.digest,.slice ax e.exts.length cx] 35)) (w.heap.size+1) e (.slice aa e.attrs.length ca) (.slice ax e.exts.length cx) from entB (by simp) (Qb _ _))
 have hb2:Below w.heap.size w ((w.alloc (.cells #[.int .i64 d.num,.int .i64 d.date,S d.prev,ve,vk,.int .i64 d.sto.ses,S d.sto.str,.slice at' d.tree.length ct,.slice ah d.holds.length ch] 92)).alloc (.cells #[.int .i64 e.kind,S e.path,.slice aa e.attrs.length ca,S e.target,.int .i64 e.size,S e.digest,.slice ax e.exts.length cx] 35)):=((Qb w.heap.size w).alloc (Qn _) _).alloc (by simp) _
 have hask:askP d.stt e d.date=if 3<e.kind∨bx=true then alwP d.holds e.kind e.path d.date else 0:=by
  unfold askP
  have h2:=Xu4 d.tree e.path
  rw [hg] at h2
  rw [show bx=(getT d.tree e.path).isSome from h2]
  rfl
 clear hvt hvh hva hvx hg
 have k1:decide ((1:Int)≤e.kind)=true:=Qt hk1
 cases bx
 case true=>
  have Hn:=Qh (show askP d.stt e d.date=alwP d.holds e.kind e.path d.date by rw [hask,if_pos (.inr rfl)])
  clear hask hk1
  go_enter Tryz.func136,Tryz.ntmps136
  go_wp2_with fail
  refine (Hg.out _ ((hw.alloc _).alloc _)).mono ?_
  rintro r1 w1 ⟨va1,vx1,rfl,hr1,hr2,hb1⟩
  obtain ⟨aq,cq,rfl,_,_,_⟩:=id hr1
  obtain ⟨aq2,cq2,rfl,_,_,_⟩:=id hr2
  have hok1:Ok I (w1.alloc (.cells #[.int .i64 ye.kind,S ye.path,.slice aq ye.attrs.length cq,S ye.target,.int .i64 ye.size,S ye.digest,.slice aq2 ye.exts.length cq2] 35)):=(((hw.alloc _).alloc _).below (Qn _) hb1).alloc _
  have DB1:=(DB.out.thru hb1).past (.cells #[.int .i64 ye.kind,S ye.path,.slice aq ye.attrs.length cq,S ye.target,.int .i64 ye.size,S ye.digest,.slice aq2 ye.exts.length cq2] 35)
  have EB1:=(EB.out.thru hb1).past (.cells #[.int .i64 ye.kind,S ye.path,.slice aq ye.attrs.length cq,S ye.target,.int .i64 ye.size,S ye.digest,.slice aq2 ye.exts.length cq2] 35)
  have hb1':=(hb2.trans (hb1.mono hb2.size)).alloc (by have:=(hb2.trans (hb1.mono hb2.size)).size;omega) (.cells #[.int .i64 ye.kind,S ye.path,.slice aq ye.attrs.length cq,S ye.target,.int .i64 ye.size,S ye.digest,.slice aq2 ye.exts.length cq2] 35)
  obtain ⟨d0,d1,d2,d3,d4,d5,d6⟩:=EB1
  obtain ⟨c0,c1,c2,c3,c4,c5,c6,c7,c8⟩:=DB1
  clear hb1 hb2 hr1 hr2 Hg
  go_wp2_with fail
  refine (Hal.out _ hok1).mono ?_
  rintro r2 w2 ⟨rfl,hb2⟩
  go_wp2
  go_ret
  rw [Hn.out]
  exact ⟨rfl,hb1'.trans (hb2.mono hb1'.size)⟩
 case false=>
  by_cases h3:e.kind≤3
  ·have Hn:=Qh (show askP d.stt e d.date=0 by rw [hask,if_neg (by simp;omega)])
   have k3:decide (e.kind≤3)=true:=Qt h3
   clear hask hk1 h3
   go_enter Tryz.func136,Tryz.ntmps136
   go_wp2_with fail
   refine (Hg.out _ ((hw.alloc _).alloc _)).mono ?_
   rintro r1 w1 ⟨va1,vx1,rfl,hr1,hr2,hb1⟩
   obtain ⟨aq,cq,rfl,_,_,_⟩:=id hr1
   obtain ⟨aq2,cq2,rfl,_,_,_⟩:=id hr2
   have hok1:Ok I (w1.alloc (.cells #[.int .i64 ye.kind,S ye.path,.slice aq ye.attrs.length cq,S ye.target,.int .i64 ye.size,S ye.digest,.slice aq2 ye.exts.length cq2] 35)):=(((hw.alloc _).alloc _).below (Qn _) hb1).alloc _
   have DB1:=(DB.out.thru hb1).past (.cells #[.int .i64 ye.kind,S ye.path,.slice aq ye.attrs.length cq,S ye.target,.int .i64 ye.size,S ye.digest,.slice aq2 ye.exts.length cq2] 35)
   have EB1:=(EB.out.thru hb1).past (.cells #[.int .i64 ye.kind,S ye.path,.slice aq ye.attrs.length cq,S ye.target,.int .i64 ye.size,S ye.digest,.slice aq2 ye.exts.length cq2] 35)
   have hb1':=(hb2.trans (hb1.mono hb2.size)).alloc (by have:=(hb2.trans (hb1.mono hb2.size)).size;omega) (.cells #[.int .i64 ye.kind,S ye.path,.slice aq ye.attrs.length cq,S ye.target,.int .i64 ye.size,S ye.digest,.slice aq2 ye.exts.length cq2] 35)
   obtain ⟨d0,d1,d2,d3,d4,d5,d6⟩:=EB1
   obtain ⟨c0,c1,c2,c3,c4,c5,c6,c7,c8⟩:=DB1
   clear hb1 hb2 hr1 hr2 Hg
   go_wp2
   go_ret
   rw [Hn.out]
   exact ⟨rfl,hb1'⟩
  ·have Hn:=Qh (show askP d.stt e d.date=alwP d.holds e.kind e.path d.date by rw [hask,if_pos (.inl (by omega))])
   have k3:decide (e.kind≤3)=false:=Qf h3
   clear hask hk1 h3
   go_enter Tryz.func136,Tryz.ntmps136
   go_wp2_with fail
   refine (Hg.out _ ((hw.alloc _).alloc _)).mono ?_
   rintro r1 w1 ⟨va1,vx1,rfl,hr1,hr2,hb1⟩
   obtain ⟨aq,cq,rfl,_,_,_⟩:=id hr1
   obtain ⟨aq2,cq2,rfl,_,_,_⟩:=id hr2
   have hok1:Ok I (w1.alloc (.cells #[.int .i64 ye.kind,S ye.path,.slice aq ye.attrs.length cq,S ye.target,.int .i64 ye.size,S ye.digest,.slice aq2 ye.exts.length cq2] 35)):=(((hw.alloc _).alloc _).below (Qn _) hb1).alloc _
   have DB1:=(DB.out.thru hb1).past (.cells #[.int .i64 ye.kind,S ye.path,.slice aq ye.attrs.length cq,S ye.target,.int .i64 ye.size,S ye.digest,.slice aq2 ye.exts.length cq2] 35)
   have EB1:=(EB.out.thru hb1).past (.cells #[.int .i64 ye.kind,S ye.path,.slice aq ye.attrs.length cq,S ye.target,.int .i64 ye.size,S ye.digest,.slice aq2 ye.exts.length cq2] 35)
   have hb1':=(hb2.trans (hb1.mono hb2.size)).alloc (by have:=(hb2.trans (hb1.mono hb2.size)).size;omega) (.cells #[.int .i64 ye.kind,S ye.path,.slice aq ye.attrs.length cq,S ye.target,.int .i64 ye.size,S ye.digest,.slice aq2 ye.exts.length cq2] 35)
   obtain ⟨d0,d1,d2,d3,d4,d5,d6⟩:=EB1
   obtain ⟨c0,c1,c2,c3,c4,c5,c6,c7,c8⟩:=DB1
   clear hb1 hb2 hr1 hr2 Hg
   go_wp2_with fail
   refine (Hal.out _ hok1).mono ?_
   rintro r2 w2 ⟨rfl,hb2⟩
   go_wp2
   go_ret
   rw [Hn.out]
   exact ⟨rfl,hb1'.trans (hb2.mono hb1'.size)⟩
theorem Xq0 {st:List Bytes} {l:List Xt} {k:Nat} {out:Bytes} {N:Bytes × Int} (hk:k<l.length) {x:Xt} (hx:l[k]=x) (h:getG st (l.drop k) out=N):
 (if gBad st x=true then ([],2) else if 0<x.s∧(((strAtP st x).length:Int)<x.o∨((strAtP st x).length:Int)-x.o<x.n) then ([],2) else if 65536-(out.length:Int)<x.n then ([],6)
 else getG st (l.drop (k+1)) (out++if x.s=0 then List.replicate x.n.toNat 0 else ((strAtP st x).drop x.o.toNat).take x.n.toNat))=N:=by
 rw [List.drop_eq_getElem_cons hk,hx,getG] at h;exact h
theorem Xhd {st:List Bytes} {x:Xt} (h:x.n<0∨x.o<0∨x.s<0∨(st.length:Int)<x.s∨(x.s=0∧x.o≠0)):gBad st x=true:=by
 unfold gBad
 rcases h with h|h|h|h|⟨h1,h2⟩
 ·rw [Qt h];simp
 ·rw [Qt h];simp
 ·rw [Qt h];simp
 ·rw [Qt h];simp
 ·simp [h1,h2]
theorem Xf6 {st:List Bytes} {x:Xt} (h1:¬x.n<0) (h2:¬x.o<0) (h3:¬x.s<0) (h4:¬(st.length:Int)<x.s) (h5:¬(x.s=0∧x.o≠0)):gBad st x=false:=by
 unfold gBad
 rw [Qf h1,Qf h2,Qf h3,Qf h4]
 simpa using h5
end Go.Proofs.YtkipnpjagcfcpaaGreatDoor
