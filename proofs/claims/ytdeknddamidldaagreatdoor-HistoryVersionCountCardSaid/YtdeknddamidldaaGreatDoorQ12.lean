/-
  Walks and laws that the claim's theorem uses: texts BmV AlP CkO CkP ApS, joined; comments out. Conditions: as each theorem says.
-/
import Derived.Test.YtdeknddamidldaaGreatDoorQ11
import Derived.RegionTactic
namespace Go.Proofs.YtdeknddamidldaaGreatDoor
open Go.RowKit
structure DM (w:World) (B:Nat) (l:List Int) (X:World):Prop where
 below:Below w.heap.size w X
 le:w.heap.size≤B
 lt:B<X.heap.size
 row_:X.heap[B]? =some (.cells (row l) 130 (0,0))
theorem DM.pass {w X X':World} {B:Nat} {l:List Int} (h:DM w B l X) (hb:Below X.heap.size X X'):DM w B l X':=
 ⟨h.below.trans (hb.mono h.below.size),h.le,Nat.lt_of_lt_of_le h.lt hb.size,(hb.block _ h.lt).trans h.row_⟩
theorem DM.set {w X:World} {B:Nat} {l l':List Int} (h:DM w B l X):DM w B l' (X.setRow B (row l')):=
 ⟨below_setRow h.below h.le _,h.le,by simpa using h.lt,setRow_heap _ _ _ _ _ _ h.row_⟩
def DgR (w:World) (B:Nat) (s:Bytes) (v4 v5:Value) (X:World):Prop:=
 (∃i:Nat,i≤lastAt s∧64*i≤s.length∧v4= .int .i64 (64*(i:Int))∧v5= .bool false∧DM w B (hAt s i) X)∨(v4= .int .i64 (s.length:Int)∧v5= .bool true∧DM w B (sumWords s) X)
def bOf:Value→Nat
 | .bool true=>0
 |_=>1
theorem Xth (G:List Int) (hG:G.length=8) (q r:Nat) (hq:q<8) (hr:r<4):(outTo G 8).take (4*q+r+1)=(outTo G 8).take (4*q+r)++ [(wordBytes (G.getD q 0)).getD r 0]:=by
 obtain ⟨a,b,c,d,e,f,g,h,rfl⟩:=Xnf hG
 rcases (show q=0∨q=1∨q=2∨q=3∨q=4∨q=5∨q=6∨q=7 by omega) with rfl|rfl|rfl|rfl|rfl|rfl|rfl|rfl<;>
  rcases (show r=0∨r=1∨r=2∨r=3 by omega) with rfl|rfl|rfl|rfl<;>rfl
theorem Xq8 (G:List Int) (hG:G.length=8):(outTo G 8).length=32:=by
 obtain ⟨a,b,c,d,e,f,g,h,rfl⟩:=Xnf hG
 rfl
set_option maxRecDepth 100000 in
set_option maxHeartbeats 2000000 in
theorem Xdg (s:Bytes) (hs:s.length≤140737488355328) (w:World):
 Calls Tryz.prog 60 #[S s] w fun e w'=>e= .returned (S (sumP s))∧Below w.heap.size w w':=by
 go_enter Tryz.func60,Tryz.ntmps60
 go_wp2_with fail
 refine (Xe4 _).mono ?_
 rintro e w1 ⟨rfl,hb1⟩
 rw [show row blkIV= #[.int .u32 1779033703,.int .u32 3144134277,.int .u32 1013904242,.int .u32 2773480762,.int .u32 1359893119,.int .u32 2600822924,.int .u32 528734635,.int .u32 1541459225] from rfl]
 go_wp2_with fail
 go_loopw [4,5] (fun s4 s5 wr=>DgR w w1.heap.size s s4 s5 wr) (fun c d _=>(s.length-(intOf c).toNat)+bOf d)
 case atStart=>exact .inl ⟨0,Nat.zero_le _,Nat.zero_le _,rfl,rfl,hb1.alloc hb1.size _,hb1.size,by simp,heap_alloc_new w1 (.cells (row sumStart) 130)⟩
 case round=>
  have hb1s:=hb1.size
  clear hb1
  rcases hrel with ⟨i,hi,hil,rfl,rfl,hm⟩|⟨rfl,rfl,hm⟩
  ·have Hm:=Qh hm
   clear hm
   by_cases hlt:i<lastAt s
   ·have hgt:64*i+64<s.length:=by unfold lastAt at hlt;omega
    have hi1:i+1≤lastAt s:=hlt
    clear hlt hi
    have hw1:IntKind.i64.wrap ((s.length:Int)-64*(i:Int))=(s.length:Int)-64*(i:Int):=IntWalk.i64_in _ (by omega)
    have hw2:IntKind.i64.wrap (64*(i:Int)+64)=64*(i:Int)+64:=IntWalk.i64_in _ (by omega)
    have hw3:(0:Int)≤64*(i:Int):=by omega
    have hw4:(64*(i:Int)+64).toNat=64*i+64:=by omega
    have hw5:(64*(i:Int)).toNat=64*i:=by omega
    have hw6:64*i+64-64*i=64:=by omega
    have hd1:decide (64<(s.length:Int)-64*(i:Int))=true:=by simp;omega
    have Hat:=Qh (show compressP (hAt s i) ((s.drop (64*i)).take 64) (64*(i:Int)+64) false=hAt s (i+1) by rw [hAt,show ((64*i+64:Nat):Int)=64*(i:Int)+64 by omega])
    have hbl:((s.drop (64*i)).take 64).length=64:=by simp;omega
    have hc:((64*(i:Int)+64)==(s.length:Int))=false:=by rw [beq_eq_false_iff_ne];omega
    have hwu:IntKind.u64.wrap (64*(i:Int)+64)=64*(i:Int)+64:=IntWalk.u64_in _ (by omega)
    go_wp2_with fail
    generalize (s.drop (64*i)).take 64=blk at Hat hbl ⊢
    have Hbl:=Qh hbl
    have hbl2:64≤blk.length:=by omega
    clear hbl
    go_loop [7] (fun s7=>s7=S blk) (fun _=>0)
    case atStart=>rfl
    case round=>
     obtain rfl:=hrel
     have hrow:=Hm.out.row_
     have hl8:=Xcx s i
     generalize hAt s i=F at hrow hl8 Hat
     have hi8:(Tryz.prog.info? 130).map (·.size)=some (row F).size:=by rw [row_size,hl8];kernel_rfl
     have Hl8:=Qh hl8
     clear hl8
     go_wp2_with (refine wpList_load_row rfl 130 _ rfl w1.heap.size rfl 130 (row F) (0,0) _ hrow Tryz.underlying130 rfl hi8 ?_)
     refine (Xee F Hl8.out blk Hbl.out (64*(i:Int)+64) false _).mono ?_
     rintro e w3 ⟨rfl,hb3⟩
     have Hm3:=Qh (Hm.out.pass hb3)
     have hr3:w3.heap[w1.heap.size]? =some (.cells (row F) 130 (0,0)):=(hb3.block _ Hm.out.lt).trans hrow
     rw [Hat.out]
     have hl9:=Xcx s (i+1)
     generalize hG:hAt s (i+1)=G at hl9 ⊢
     have HG:=Qh hG
     have hi9:(Tryz.prog.info? 130).map (·.size)=some (row G).size:=by rw [row_size,hl9];kernel_rfl
     have hz9:(row F).size=(row G).size:=by rw [row_size,row_size,Hl8.out,hl9]
     have ho9:(row G).all (·.oneCell')=true:=by simp [row,Value.oneCell']
     clear hb3 hrow hG hl9
     go_wp2_with (refine wpList_store_row rfl 130 _ _ rfl w1.heap.size (row G) rfl rfl 130 (row F) hr3 hi9 hz9 ho9 ?_)
     simp only [Act.put]
     go_roundw
     case rel=>exact .inl ⟨i+1,by omega,by omega,by go_num,rfl,by rw [HG.out];exact Hm3.out.set⟩
     case measure=>simp [intOf,bOf];omega
   ·have hie:i=lastAt s:=by omega
    have hle:s.length≤64*i+64:=by unfold lastAt at hie;omega
    obtain ⟨m,hm⟩:∃m,s.length-64*i=m:=⟨_,rfl⟩
    have hmi:(s.length:Int)-64*(i:Int)=(m:Int):=by omega
    have hm64:m≤64:=by omega
    have Hsum:=Qh (show compressP (hAt s i) (s.drop (64*i)++List.replicate (64-m) 0) (s.length:Int) true=sumWords s by rw [sumWords,←hie,hm])
    have hdr:(s.drop (64*i)).length=m:=by simp;omega
    have htk:(s.drop (64*i)).take m=s.drop (64*i):=List.take_of_length_le (by omega)
    have hw1:IntKind.i64.wrap ((s.length:Int)-64*(i:Int))=(m:Int):=by rw [hmi];exact IntWalk.i64_in _ (by omega)
    have hw2:IntKind.i64.wrap (64*(i:Int)+(m:Int))=(s.length:Int):=by rw [IntWalk.i64_in _ (by omega)];omega
    have hw3:(0:Int)≤64*(i:Int):=by omega
    have hw5:(64*(i:Int)).toNat=64*i:=by omega
    have hw7:s.length-64*i=m:=hm
    have hw8:64*(i:Int)≤(s.length:Int):=by omega
    have hwu:IntKind.u64.wrap (s.length:Int)=(s.length:Int):=IntWalk.u64_in _ (by omega)
    clear hm hie hlt hmi hdr
    go_wp2_with fail
    generalize hblk:s.drop (64*i)=blk at Hsum ⊢
    have hbl:blk.length=m:=by rw [←hblk];simp;omega
    clear hblk hw1 hw2 hw3 hw5 hw7 hw8
    have Hbl:=Qh hbl
    have hbl2:blk.length≤64:=by omega
    have hwc:((s.length:Int)==(s.length:Int))=true:=beq_self_eq_true _
    clear hbl
    go_loop [7] (fun s7=> ∃j:Nat,j+m≤64∧s7=S (blk++List.replicate j 0)) (fun v=>match v with| .string b=>64-b.size|_=>0)
    case atStart=>exact ⟨0,by omega,by simp⟩
    case round=>
     obtain ⟨j,hj,rfl⟩:=hrel
     have hjl:(blk++List.replicate j (0:UInt8)).length=m+j:=by rw [List.length_append,List.length_replicate,Hbl.out]
     have Hjs:=Qh (show blk++List.replicate j (0:UInt8)++ [0]=blk++List.replicate (j+1) 0 by rw [List.replicate_succ',List.append_assoc])
     have Hjl:=Qh hjl
     generalize hx:blk++List.replicate j (0:UInt8)=x at hjl Hjs Hjl ⊢
     have Hx:=Qh hx
     clear hx
     by_cases hlt64:j+m<64
     ·have hx64:x.length<64:=by omega
      clear hjl
      go_wp2
      go_round
      case rel=>exact ⟨j+1,by omega,by rw [Hjs.out]⟩
      case measure=>simp [ByteArray.size];omega
     ·have hx64:64≤x.length:=by omega
      have Hx64:=Qh (show x.length=64 by omega)
      have Hxe:=Qh (show x=blk++List.replicate (64-m) 0 by rw [←Hx.out,show 64-m=j by omega])
      clear hjl
      have hrow:=Hm.out.row_
      have hl8:=Xcx s i
      generalize hAt s i=F at hrow hl8 Hsum
      have hi8:(Tryz.prog.info? 130).map (·.size)=some (row F).size:=by rw [row_size,hl8];kernel_rfl
      have Hl8:=Qh hl8
      clear hl8
      go_wp2_with (refine wpList_load_row rfl 130 _ rfl w1.heap.size rfl 130 (row F) (0,0) _ hrow Tryz.underlying130 rfl hi8 ?_)
      refine (Xee F Hl8.out x Hx64.out (s.length:Int) true _).mono ?_
      rintro e w3 ⟨rfl,hb3⟩
      have Hm3:=Qh (Hm.out.pass hb3)
      have hr3:w3.heap[w1.heap.size]? =some (.cells (row F) 130 (0,0)):=(hb3.block _ Hm.out.lt).trans hrow
      have hl9:(compressP F x (s.length:Int) true).length=8:=Xa0 ..
      generalize hG:compressP F x (s.length:Int) true=G at hl9 ⊢
      have HG:=Qh (show sumWords s=G by rw [←Hsum.out,←Hxe.out,hG])
      have hi9:(Tryz.prog.info? 130).map (·.size)=some (row G).size:=by rw [row_size,hl9];kernel_rfl
      have hz9:(row F).size=(row G).size:=by rw [row_size,row_size,Hl8.out,hl9]
      have ho9:(row G).all (·.oneCell')=true:=by simp [row,Value.oneCell']
      clear hb3 hrow hG hl9
      go_wp2_with (refine wpList_store_row rfl 130 _ _ rfl w1.heap.size (row G) rfl rfl 130 (row F) hr3 hi9 hz9 ho9 ?_)
      simp only [Act.put]
      go_roundw
      case rel=>exact .inr ⟨rfl,rfl,by rw [HG.out];exact Hm3.out.set⟩
      case measure=>simp [intOf,bOf]
  ·have Hm:=Qh hm
   clear hm
   have hlG:(sumWords s).length=8:=Xa0 ..
   obtain ⟨G,hG⟩:∃G,sumWords s=G:=⟨_,rfl⟩
   have HG:=Qh hG
   rw [hG] at hlG Hm
   clear hG
   go_wp2_with fail
   have hBs:=Hm.out.lt
   have hown0:OwnS tB 5 (fun _=>none) wr wr.heap.size (.slice none 0 0) ((outTo G 8).take 0):=OwnS.nil _ _ _ _ _
   have Hown0:=Qh hown0
   have hB0:w.heap.size≤wr.heap.size:=Hm.out.below.size
   clear hown0 hb1s
   generalize hB0e:wr.heap.size=B0 at hBs Hown0 hB0
   have HB0e:=Qh (Nat.le_of_eq hB0e.symm)
   clear hB0e
   have hol:=Xq8 G hlG
   generalize w1.heap.size=B at hBs Hm ⊢
   go_loopw [8,9] (fun s8 s9 X=> ∃k:Nat,k≤32∧s9= .int .i64 k∧OwnS tB 5 (fun _=>none) X B0 s8 ((outTo G 8).take k)∧X.heap[B]? =some (.cells (row G) 130 (0,0))∧Below w.heap.size w X∧B0≤X.heap.size) (fun _ k _=>32-(intOf k).toNat)
   case atStart=>exact ⟨0,Nat.zero_le _,rfl,Hown0.out,Hm.out.row_,Hm.out.below,HB0e.out⟩
   case round=>
    clear Hown0 Hm HB0e
    obtain ⟨k,hk,rfl,hown,hrow,hb,hsz⟩:=hrel
    have Hown:=Qh hown
    by_cases hlt:k<32
    ·obtain ⟨q,r,hq,hr,hkq⟩:∃q r,q<8∧r<4∧k=4*q+r:=⟨k / 4,k%4,by omega,by omega,by omega⟩
     have hdiv:(k:Int) / 4=(q:Int):=by omega
     have hqi:(q:Int)<8:=by omega
     have Hst:=Qh (show (outTo G 8).take (k+1)=(outTo G 8).take k++ [(wordBytes (G.getD q 0)).getD r 0] by rw [hkq];exact Xth G hlG q r hq hr)
     have c0:=(cell_of_row wr _ q _ _ _ hrow).trans (Xaw (l:=G) (by omega))
     have hlk:((outTo G 8).take k).length≤32:=by rw [List.length_take];omega
     have Hkq:=Qh hkq
     have Hrow:=Qh hrow
     clear hkq hown hrow hol
     generalize G.getD q 0=x0 at c0 Hst
     rcases (show r=0∨r=1∨r=2∨r=3 by omega) with rfl|rfl|rfl|rfl
     ·have hmod:(k:Int)%4=0:=by have:=Hkq.out;omega
      go_wp2_with (at_builtin;refine Xad (w0:=wr) Xg6 rfl _ _ rfl _ _ _ rfl Hown.out (x0%256) [.int .u8 (x0%256)] _ rfl rfl (by omega) (by omega) hsz ?_)
      intro v5 w5 hown5 hg5
      have hb5:=Below.own hb hg5 Hown.out hB0 hsz
      have hr5:=(hg5.block B (by omega) (fun e=>Hown.out.ne_lt hBs e.symm)).trans Hrow.out
      have hs5:=hg5.size
      have Hown5:=Qh hown5
      have Hr5:=Qh hr5
      clear hown5 hr5 hg5 Hown Hrow
      go_wp2
      go_roundw
      case rel=>exact ⟨k+1,by omega,by go_num,by rw [Hst.out];exact Hown5.out,Hr5.out,hb5,by omega⟩
      case measure=>simp [intOf];omega
     ·have hmod:(k:Int)%4=1:=by have:=Hkq.out;omega
      go_wp2_with (at_builtin;refine Xad (w0:=wr) Xg6 rfl _ _ rfl _ _ _ rfl Hown.out (x0 / 256%256) [.int .u8 (x0 / 256%256)] _ rfl rfl (by omega) (by omega) hsz ?_)
      intro v5 w5 hown5 hg5
      have hb5:=Below.own hb hg5 Hown.out hB0 hsz
      have hr5:=(hg5.block B (by omega) (fun e=>Hown.out.ne_lt hBs e.symm)).trans Hrow.out
      have hs5:=hg5.size
      have Hown5:=Qh hown5
      have Hr5:=Qh hr5
      clear hown5 hr5 hg5 Hown Hrow
      go_wp2
      go_roundw
      case rel=>exact ⟨k+1,by omega,by go_num,by rw [Hst.out];exact Hown5.out,Hr5.out,hb5,by omega⟩
      case measure=>simp [intOf];omega
     ·have hmod:(k:Int)%4=2:=by have:=Hkq.out;omega
      go_wp2_with (at_builtin;refine Xad (w0:=wr) Xg6 rfl _ _ rfl _ _ _ rfl Hown.out (x0 / 65536%256) [.int .u8 (x0 / 65536%256)] _ rfl rfl (by omega) (by omega) hsz ?_)
      intro v5 w5 hown5 hg5
      have hb5:=Below.own hb hg5 Hown.out hB0 hsz
      have hr5:=(hg5.block B (by omega) (fun e=>Hown.out.ne_lt hBs e.symm)).trans Hrow.out
      have hs5:=hg5.size
      have Hown5:=Qh hown5
      have Hr5:=Qh hr5
      clear hown5 hr5 hg5 Hown Hrow
      go_wp2
      go_roundw
      case rel=>exact ⟨k+1,by omega,by go_num,by rw [Hst.out];exact Hown5.out,Hr5.out,hb5,by omega⟩
      case measure=>simp [intOf];omega
     ·have hmod:(k:Int)%4=3:=by have:=Hkq.out;omega
      go_wp2_with (at_builtin;refine Xad (w0:=wr) Xg6 rfl _ _ rfl _ _ _ rfl Hown.out (x0 / 16777216%256) [.int .u8 (x0 / 16777216%256)] _ rfl rfl (by omega) (by omega) hsz ?_)
      intro v5 w5 hown5 hg5
      have hb5:=Below.own hb hg5 Hown.out hB0 hsz
      have hr5:=(hg5.block B (by omega) (fun e=>Hown.out.ne_lt hBs e.symm)).trans Hrow.out
      have hs5:=hg5.size
      have Hown5:=Qh hown5
      have Hr5:=Qh hr5
      clear hown5 hr5 hg5 Hown Hrow
      go_wp2
      go_roundw
      case rel=>exact ⟨k+1,by omega,by go_num,by rw [Hst.out];exact Hown5.out,Hr5.out,hb5,by omega⟩
      case measure=>simp [intOf];omega
    ·have hke:k=32:=by omega
     have hfull:(outTo G 8).take k=outTo G 8:=List.take_of_length_le (by omega)
     have hret:(outTo G 8).map (fun x=>UInt8.ofNat x.toNat)=sumP s:=by rw [sumP,HG.out]
     rw [hfull] at hown
     have hpos:0<(outTo G 8).length:=by omega
     have hcv:=Xoq (P:=Tryz.prog) Tryz.underlying117 Tryz.underlying5 Tryz.underlying9 wr hown hpos
     rw [hret] at hcv
     clear hown hpos hke hfull hret hrow Hown hol hlG
     go_wp2
     go_ret
     exact ⟨rfl,hb⟩
def sumPart (s:Bytes) (k:Nat):Bytes:=if k=0 then [] else s
set_option maxRecDepth 100000 in
set_option maxHeartbeats 400000 in
theorem Xit (b off cap:Nat) (s:Bytes) (hs:s.length≤140737488355328) (w:World) (hc:w.cell? ⟨b,off,none⟩=some (S s)):
 Calls Tryz.prog 52 #[.slice (some ⟨b,off,none⟩) 1 cap] w fun e w'=>e= .returned (S (sumP s))∧Below w.heap.size w w':=by
 go_enter Tryz.func52,Tryz.ntmps52
 go_wp2_with fail
 go_loop [3,4] (fun s3 s4=> ∃k:Nat,k≤1∧s4= .int .i64 k∧s3=S (sumPart s k)) (fun _ k=>1-(intOf k).toNat)
 case atStart=>exact ⟨0,by omega,rfl,rfl⟩
 case round=>
  obtain ⟨k,hk,rfl,rfl⟩:=hrel
  by_cases hlt:k<1
  ·have hk0:k=0:=by omega
   subst hk0
   rw [show sumPart s 0= [] from rfl]
   go_wp2
   go_round
   case rel=>exact ⟨1,by omega,by go_num,rfl⟩
   case measure=>simp [intOf]
  ·have hk1:k=1:=by omega
   subst hk1
   rw [show sumPart s 1=s from rfl]
   go_wp2_with fail
   refine (Xdg s hs _).mono ?_
   rintro e w1 ⟨rfl,hb1⟩
   go_wp2
   go_ret
   exact ⟨rfl,hb1⟩
end Go.Proofs.YtdeknddamidldaaGreatDoor
namespace Go.Proofs.YtdeknddamidldaaGreatDoor
theorem Xqj (s:Bytes):(sumP s).length=32:=by
 unfold sumP
 rw [List.length_map]
 exact Xq8 _ (Xa0 ..)
def txtA:Bytes:= [116,101,120,116]
def digA:Bytes:=sumP txtA
def yA:Ent:=⟨1,[97],[],[],4,digA,[⟨1,0,4⟩]⟩
def yR:Ent:=⟨4,[97],[],[],0,[],[]⟩
def sA:Ses:=⟨1,5,[],[yA],txtA,[]⟩
def sB:Ses:=⟨2,6,(dirDig sA).1,[yR],[],[]⟩
theorem Xrd:∀ {l:Bytes},l.length=32→ ∃a0 a1 a2 a3 a4 a5 a6 a7 a8 a9 b0 b1 b2 b3 b4 b5 b6 b7 b8 b9 c0 c1 c2 c3 c4 c5 c6 c7 c8 c9 d0 d1,l= [a0,a1,a2,a3,a4,a5,a6,a7,a8,a9,b0,b1,b2,b3,b4,b5,b6,b7,b8,b9,c0,c1,c2,c3,c4,c5,c6,c7,c8,c9,d0,d1]
 | [a0,a1,a2,a3,a4,a5,a6,a7,a8,a9,b0,b1,b2,b3,b4,b5,b6,b7,b8,b9,c0,c1,c2,c3,c4,c5,c6,c7,c8,c9,d0,d1],_=>⟨a0,a1,a2,a3,a4,a5,a6,a7,a8,a9,b0,b1,b2,b3,b4,b5,b6,b7,b8,b9,c0,c1,c2,c3,c4,c5,c6,c7,c8,c9,d0,d1,rfl⟩
set_option maxRecDepth 100000 in
theorem Xv5 {d:Bytes} (h:d.length=32):applyT [] ⟨1,[97],[],[],4,d,[⟨1,0,4⟩]⟩=([⟨1,[97],[],[],4,d,[⟨1,0,4⟩]⟩],0):=by
 obtain ⟨a0,a1,a2,a3,a4,a5,a6,a7,a8,a9,b0,b1,b2,b3,b4,b5,b6,b7,b8,b9,c0,c1,c2,c3,c4,c5,c6,c7,c8,c9,d0,d1,rfl⟩:=Xrd h
 kernel_rfl
set_option maxRecDepth 100000 in
theorem Xv2 {d:Bytes} (h:d.length=32):applyT [⟨1,[97],[],[],4,d,[⟨1,0,4⟩]⟩] yR=([],0):=by
 obtain ⟨a0,a1,a2,a3,a4,a5,a6,a7,a8,a9,b0,b1,b2,b3,b4,b5,b6,b7,b8,b9,c0,c1,c2,c3,c4,c5,c6,c7,c8,c9,d0,d1,rfl⟩:=Xrd h
 kernel_rfl
theorem Xif:stpP nilS yA 5=(⟨[yA],[]⟩,0):=by
 have h:applyT [] yA=([yA],0):=Xv5 (Xqj _)
 unfold stpP
 rw [show nilS.tree= [] from rfl,h]
 rfl
theorem Xny:stpP ⟨[yA],[]⟩ yR 6=(nilS,0):=by
 have h:applyT [yA] yR=([],0):=Xv2 (Xqj _)
 have ha:askP ⟨[yA],[]⟩ yR 6=0:=by
  unfold askP
  split<;>rfl
 unfold stpP
 rw [h,ha]
 rfl
set_option maxRecDepth 100000 in
theorem Xv3 {d:Bytes} (h:d.length=32):entErr ⟨1,[97],[],[],4,d,[⟨1,0,4⟩]⟩=0:=by
 obtain ⟨a0,a1,a2,a3,a4,a5,a6,a7,a8,a9,b0,b1,b2,b3,b4,b5,b6,b7,b8,b9,c0,c1,c2,c3,c4,c5,c6,c7,c8,c9,d0,d1,rfl⟩:=Xrd h
 kernel_rfl
theorem Xkh:dirDig sA=(sumP (sesText sA),0):=by
 have he:entErr yA=0:=Xv3 (Xqj _)
 have h:sesErr sA=0:=by
  unfold sesErr
  rw [show fldErr sA=0 from rfl,show entsErr sA.ents=0 by show entsErr [yA]=0;rw [entsErr,if_neg (by omega)];rfl]
  rfl
 rw [dirDig,if_neg (by omega)]
theorem Xue:sB.prev.length=32:=by
 show (dirDig sA).1.length=32
 rw [Xkh];exact Xqj _
theorem Xvi:(dirDig sB).2=0:=by
 have hp:=Xue
 have hf:fldErr sB=0:=by
  unfold fldErr
  rw [if_neg (by rw [show sB.num=2 from rfl,show sB.date=6 from rfl];omega),if_neg (fun q=>q.2 hp)]
 have h:sesErr sB=0:=by
  unfold sesErr
  rw [hf,show entsErr sB.ents=0 from by decide +kernel]
  rfl
 rw [dirDig,if_neg (by omega)]
theorem Xv4:chkH [sA,sB]=0:=by
 have e1:entsH ([sA,sB].take 1) sA.date nilS sA.ents=(⟨[yA],[]⟩,0):=by
  show entsH [sA] 5 nilS [yA]=_
  rw [entsH,Xif,if_neg (by decide),if_neg (by decide),entsH]
 have e2:entsH ([sA,sB].take 2) sB.date ⟨[yA],[]⟩ sB.ents=(nilS,0):=by
  show entsH [sA,sB] 6 ⟨[yA],[]⟩ [yR]=_
  rw [entsH,Xny,if_neg (by decide),if_neg (by show ¬storedP [sA,sB] yR=false;simp [storedP,yR]),entsH]
 unfold chkH
 rw [chkFromH,Xkh,if_neg (by decide),if_neg (by show ¬((1:Int)≠0+1∨(5:Int)<0);omega),if_neg (by show ¬(([]:Bytes)≠ []);simp)]
 rw [e1,if_neg (by decide),chkFromH,Xvi,if_neg (by decide),if_neg (by show ¬((2:Int)≠((0+1:Nat):Int)+1∨(6:Int)<5);omega),if_neg (by show ¬((dirDig sA).1≠sumP (sesText sA));rw [Xkh];simp)]
 rw [e2,if_neg (by decide),chkFromH]
theorem Xsk:aftS nilS [sA]=⟨[yA],[]⟩:=by
 show (stpP nilS yA 5).1=_
 rw [Xif]
theorem Xvk:aftS nilS [sA,sB]=nilS:=by
 show (stpP (stpP nilS yA 5).1 yR 6).1=_
 rw [Xif,Xny]
theorem Xv1:(verP [sA,sB] [97]).length=2:=by
 have h1:verFrom [97] nilS [sA,sB]=verS 1 5 [97] nilS [yA]++(verS 2 6 [97] ⟨[yA],[]⟩ [yR]++ []):=by
  rw [verFrom,verFrom,verFrom]
  show _++(verS 2 6 [97] (stpP nilS yA 5).1 [yR]++ [])=_
  rw [Xif];rfl
 show (verFrom [97] nilS [sA,sB]).length=2
 rw [h1,verS,verS,verS,verS,if_pos (show verHit nilS [97] yA=true from rfl),if_pos (show verHit ⟨[yA],[]⟩ [97] yR=true by unfold verHit;decide +kernel)]
 rfl
theorem Xvj:asOf 5 [sA,sB]=1:=rfl
end Go.Proofs.YtdeknddamidldaaGreatDoor
namespace Go.Proofs.YtdeknddamidldaaGreatDoor
def ckH (h:Nat) (b:UInt8):Nat:=(2*h+40503*(b.toNat+1))%65536
def firstG:Bytes→Nat→Nat→Nat
 | [],i,_=>i
 |b::r,i,h=>if i+1=96∨(16≤i+1∧ckH h b<2048) then i+1 else firstG r (i+1) (ckH h b)
def firstP (s:Bytes):Nat:=firstG s 0 0
theorem Xh0:∀(r:Bytes) (i h:Nat),i≤firstG r i h∧firstG r i h≤i+r.length
 | [],i,h=>⟨Qn _,by simp [firstG]⟩
 |b::r,i,h=>by
  have:=Xh0 r (i+1) (ckH h b)
  rw [firstG,List.length_cons]
  split<;>omega
theorem Xpv (b:UInt8) (r:Bytes) (i h:Nat):i<firstG (b::r) i h:=by
 have:=(Xh0 r (i+1) (ckH h b)).1
 rw [firstG]
 split<;>omega
theorem Xd2 {s:Bytes} (h:s≠ []):0<firstP s:=by
 cases s with
 |nil=>exact absurd rfl h
 |cons b r=>exact Xpv b r 0 0
theorem Xlu (s:Bytes):firstP s≤s.length:=by have:=(Xh0 s 0 0).2;unfold firstP;omega
def chunksF:Nat→Bytes→List Bytes
 |0,_=> []
 |n+1,s=>if s= [] then [] else s.take (firstP s)::chunksF n (s.drop (firstP s))
def chunksP (s:Bytes):List Bytes:=chunksF s.length s
theorem Xi8:∀(n m:Nat) (s:Bytes),s.length≤n→s.length≤m→chunksF n s=chunksF m s
 |0,m,s,h,_=>by
  have:s= []:=List.eq_nil_of_length_eq_zero (by omega)
  subst this
  cases m<;>simp [chunksF]
 |n+1,0,s,_,h=>by
  have:s= []:=List.eq_nil_of_length_eq_zero (by omega)
  subst this
  simp [chunksF]
 |n+1,m+1,s,h1,h2=>by
  rw [chunksF,chunksF]
  by_cases h0:s= []
  ·rw [if_pos h0,if_pos h0]
  ·have hp:=Xd2 h0
   rw [if_neg h0,if_neg h0,Xi8 n m _ (by rw [List.length_drop];omega) (by rw [List.length_drop];omega)]
theorem Xp1:chunksP []= []:=rfl
theorem Xh7 {s:Bytes} (h:s≠ []):chunksP s=s.take (firstP s)::chunksP (s.drop (firstP s)):=by
 have hp:=Xd2 h
 have hl:0<s.length:=List.length_pos_iff.2 h
 obtain ⟨n,hn⟩:∃n,s.length=n+1:=⟨s.length-1,by omega⟩
 unfold chunksP
 rw [hn,chunksF,if_neg h,Xi8 n (s.drop (firstP s)).length _ (by rw [List.length_drop];omega) (Qn _)]
theorem Xdt:∀(n:Nat) (s:Bytes),s.length≤n→(chunksP s).flatten=s∧(∀c∈chunksP s,c≠ [])∧(chunksP s).length≤s.length
 |0,s,h=>by
  have:s= []:=List.eq_nil_of_length_eq_zero (by omega)
  subst this
  exact ⟨rfl,fun _ h=>(by cases h),Qn _⟩
 |n+1,s,h=>by
  by_cases h0:s= []
  ·subst h0
   exact ⟨rfl,fun _ h=>(by cases h),Qn _⟩
  ·have hp:=Xd2 h0
   have hf:=Xlu s
   obtain ⟨h1,h2,h3⟩:=Xdt n (s.drop (firstP s)) (by rw [List.length_drop];omega)
   rw [List.length_drop] at h3
   rw [Xh7 h0]
   refine ⟨by rw [List.flatten_cons,h1,List.take_append_drop],fun c hc=> ?_,by rw [List.length_cons];omega⟩
   rcases List.mem_cons.1 hc with rfl|hc
   ·intro e
    have:=congrArg List.length e
    rw [List.length_take] at this
    simp at this
    rcases this with h|h
    ·omega
    ·exact h0 h
   ·exact h2 c hc
theorem Xns (s:Bytes):(chunksP s).flatten=s:=(Xdt _ s (Qn _)).1
theorem Xp2 (s:Bytes):(chunksP s).length≤s.length:=(Xdt _ s (Qn _)).2.2
structure Sg where
 n:Int
 d:Bytes
def zerosP:Bytes→Nat
 | []=>0
 |b::r=>if b=0 then zerosP r+1 else 0
theorem Xgt:∀s:Bytes,zerosP s≤s.length
 | []=>Qn _
 |b::r=>by
  have:=Xgt r
  rw [zerosP,List.length_cons]
  split<;>omega
def dataG (d:Bytes):List Sg:=if d= [] then [] else [⟨0,d⟩]
def segG:Nat→Bytes→Bytes→List Sg
 |0,acc,_=>dataG acc
 |f+1,acc,r=>
  if r= [] then dataG acc
  else if 32≤zerosP r then dataG acc++⟨(zerosP r:Nat),[]⟩::segG f [] (r.drop (zerosP r))
  else segG f (acc++r.take (max (zerosP r) 1)) (r.drop (max (zerosP r) 1))
def segR (acc r:Bytes):List Sg:=segG r.length acc r
def segsP (s:Bytes):List Sg:=segR [] s
theorem Xjm:∀(n m:Nat) (acc r:Bytes),r.length≤n→r.length≤m→segG n acc r=segG m acc r
 |0,m,acc,r,h,_=>by
  have:r= []:=List.eq_nil_of_length_eq_zero (by omega)
  subst this
  cases m<;>simp [segG]
 |n+1,0,acc,r,_,h=>by
  have:r= []:=List.eq_nil_of_length_eq_zero (by omega)
  subst this
  simp [segG]
 |n+1,m+1,acc,r,h1,h2=>by
  rw [segG,segG]
  by_cases h0:r= []
  ·rw [if_pos h0,if_pos h0]
  ·have hl:0<r.length:=List.length_pos_iff.2 h0
   rw [if_neg h0,if_neg h0]
   by_cases h3:32≤zerosP r
   ·rw [if_pos h3,if_pos h3,Xjm n m _ _ (by rw [List.length_drop];omega) (by rw [List.length_drop];omega)]
   ·rw [if_neg h3,if_neg h3,Xjm n m _ _ (by rw [List.length_drop];omega) (by rw [List.length_drop];omega)]
theorem Xuk (acc:Bytes):segR acc []=dataG acc:=rfl
theorem Xs4 {acc r:Bytes} (h0:r≠ []) (h:32≤zerosP r):segR acc r=dataG acc++⟨(zerosP r:Nat),[]⟩::segR [] (r.drop (zerosP r)):=by
 have hl:0<r.length:=List.length_pos_iff.2 h0
 obtain ⟨n,hn⟩:∃n,r.length=n+1:=⟨r.length-1,by omega⟩
 unfold segR
 rw [hn,segG,if_neg h0,if_pos h,Xjm n _ _ _ (by rw [List.length_drop];omega) (Qn _)]
theorem Xs5 {acc r:Bytes} (h0:r≠ []) (h:¬32≤zerosP r):segR acc r=segR (acc++r.take (max (zerosP r) 1)) (r.drop (max (zerosP r) 1)):=by
 have hl:0<r.length:=List.length_pos_iff.2 h0
 obtain ⟨n,hn⟩:∃n,r.length=n+1:=⟨r.length-1,by omega⟩
 unfold segR
 rw [hn,segG,if_neg h0,if_neg h,Xjm n _ _ _ (by rw [List.length_drop];omega) (Qn _)]
def segSz (l:List Sg):Nat:=(l.map fun g=>g.n.toNat+g.d.length).sum
theorem Xfm (g:Sg) (l:List Sg):segSz (g::l)=g.n.toNat+g.d.length+segSz l:=by simp [segSz]
theorem Xkt (a b:List Sg):segSz (a++b)=segSz a+segSz b:=by simp [segSz]
theorem Xeu (d:Bytes):segSz (dataG d)=d.length∧ ∀g∈dataG d,(g.n=0∧g.d≠ [])∨(0<g.n∧g.d= []):=by
 unfold dataG
 split
 ·rename_i h;subst h;exact ⟨rfl,fun _ h=>(by cases h)⟩
 ·rename_i h
  refine ⟨by simp [segSz],fun g hg=> ?_⟩
  simp at hg
  subst hg
  exact .inl ⟨rfl,h⟩
theorem Xdv:∀(f:Nat) (acc r:Bytes),r.length≤f→segSz (segG f acc r)=acc.length+r.length∧ ∀g∈segG f acc r,(g.n=0∧g.d≠ [])∨(0<g.n∧g.d= [])
 |0,acc,r,h=>by
  have:r= []:=List.eq_nil_of_length_eq_zero (by omega)
  subst this
  exact Xeu acc
 |f+1,acc,r,h=>by
  rw [segG]
  by_cases h0:r= []
  ·subst h0;rw [if_pos rfl];exact Xeu acc
  ·have hl:0<r.length:=List.length_pos_iff.2 h0
   have hz:=Xgt r
   rw [if_neg h0]
   by_cases h3:32≤zerosP r
   ·rw [if_pos h3]
    obtain ⟨h1,h2⟩:=Xdv f [] (r.drop (zerosP r)) (by rw [List.length_drop];omega)
    obtain ⟨d1,d2⟩:=Xeu acc
    rw [List.length_drop] at h1
    refine ⟨by rw [Xkt,Xfm,h1,d1];simp;omega,fun g hg=> ?_⟩
    rcases List.mem_append.1 hg with hg|hg
    ·exact d2 g hg
    ·rcases List.mem_cons.1 hg with rfl|hg
     ·exact .inr ⟨by show (0:Int)<(zerosP r:Nat);omega,rfl⟩
     ·exact h2 g hg
   ·rw [if_neg h3]
    obtain ⟨h1,h2⟩:=Xdv f (acc++r.take (max (zerosP r) 1)) (r.drop (max (zerosP r) 1)) (by rw [List.length_drop];omega)
    refine ⟨by rw [h1];simp;omega,h2⟩
theorem Xkr (s:Bytes):segSz (segsP s)=s.length:=by
 have:=(Xdv s.length [] s (Qn _)).1
 simpa [segsP,segR] using this
theorem Xks {s:Bytes}:∀g∈segsP s,(g.n=0∧g.d≠ [])∨(0<g.n∧g.d= []):=(Xdv s.length [] s (Qn _)).2
theorem Xha:∀ {l:List Sg},(∀g∈l,(g.n=0∧g.d≠ [])∨(0<g.n∧g.d= []))→l.length≤segSz l
 | [],_=>Qn _
 |g::l,h=>by
  have h1:=h g (List.mem_cons_self ..)
  have h2:=Xha (l:=l) fun x hx=>h x (List.mem_cons_of_mem _ hx)
  rw [Xfm,List.length_cons]
  rcases h1 with ⟨_,h1⟩|⟨h1,_⟩
  ·have:=List.length_pos_iff.2 h1;omega
  ·omega
theorem Xs3 (s:Bytes):(segsP s).length≤s.length:=by rw [←Xkr s];exact Xha Xks
end Go.Proofs.YtdeknddamidldaaGreatDoor
namespace Go.Proofs.YtdeknddamidldaaGreatDoor
structure Ck where
 d:Bytes
 x:Xt
structure Sto where
 cks:List Ck
 ses:Int
 str:Bytes
def findX:List Ck→Bytes→Option Xt
 | [],_=>none
 |c::l,d=>if c.d=d then some c.x else findX l d
def addX (l:List Xt) (x:Xt):List Xt:=
 match l.getLast? with
 |none=> [x]
 |some y=>if x.s≠0∧y.s=x.s∧y.o+y.n=x.o then l.dropLast++ [⟨y.s,y.o,y.n+x.n⟩] else l++ [x]
def newX (S:Sto) (c:Bytes):Xt:=⟨S.ses,(S.str.length:Nat),(c.length:Nat)⟩
def putC (S:Sto) (c:Bytes):Sto × Xt:=
 match findX S.cks (sumP c) with
 |some x=>(S,x)
 |none=>(⟨S.cks++ [⟨sumP c,newX S c⟩],S.ses,S.str++c⟩,newX S c)
def putO (p:Sto × List Xt) (c:Bytes):Sto × List Xt:=((putC p.1 c).1,addX p.2 (putC p.1 c).2)
def putG (p:Sto × List Xt) (g:Sg):Sto × List Xt:=if g.d= [] then (p.1,addX p.2 ⟨0,0,g.n⟩) else (chunksP g.d).foldl putO p
def putP (S:Sto) (c:Bytes):Sto × List Xt × Int:=
 if S.ses<1∨255<S.ses then (S,[],1) else if 65536<c.length then (S,[],6)
 else (((segsP c).foldl putG (S,[])).1,((segsP c).foldl putG (S,[])).2,0)
def beginP (S:Sto) (n:Int):Sto × Int:=if n<1∨255<n then (S,2) else if n≤S.ses then (S,14) else (⟨S.cks,n,[]⟩,0)
def gBad (st:List Bytes) (x:Xt):Bool:=decide (x.n<0) || decide (x.o<0) || decide (x.s<0) || decide ((st.length:Int)<x.s) || (x.s==0&&x.o != 0)
def strAtP (st:List Bytes) (x:Xt):Bytes:=st.getD (x.s-1).toNat []
def getG (st:List Bytes):List Xt→Bytes→Bytes × Int
 | [],out=>(out,0)
 |x::r,out=>
  if gBad st x=true then ([],2)
  else if 0<x.s∧(((strAtP st x).length:Int)<x.o∨((strAtP st x).length:Int)-x.o<x.n) then ([],2)
  else if 65536-(out.length:Int)<x.n then ([],6)
  else getG st r (out++if x.s=0 then List.replicate x.n.toNat 0 else ((strAtP st x).drop x.o.toNat).take x.n.toNat)
def getP (st:List Bytes) (l:List Xt):Bytes × Int:=getG st l []
theorem Xub (l:List Xt) (x:Xt):(addX l x).length≤l.length+1∧0<(addX l x).length:=by
 unfold addX
 split
 ·simp
 ·rename_i y hy
  have hl:0<l.length:=by cases l with
   |nil=>simp at hy
   |cons a l=>simp
  split<;>simp<;>omega
end Go.Proofs.YtdeknddamidldaaGreatDoor
namespace Go.Proofs.YtdeknddamidldaaGreatDoor
open Go.RowKit
section
variable {P:Program} {α:Type} {T:Ty α} {I:IH}
theorem Xde {t ty e:TypeId} {i:TypeInfo} (ht:P.underlying t=some (.slice e)) (hi:P.info? e=some i) (w:World) (b ao:Option Addr) (n cap c:Nat) (hn:n≤cap):
 (Builtin.append_ #[t,t] ty #[.slice b n cap,.slice ao 0 c]).run P w= .ok (.slice b n cap) w:=by
 cases b<;>cases ao<;>simp [Builtin.append_,run_underlying ht,sizeOf,typeInfo,hi,Builtin.lenOf,Builtin.firstCells,loadCells,loadCellsFrom,hn,storeCells]
def SrcS (T:Ty α) (I:IH) (w:World) (v:Value) (l:List α):Prop:=
 ∃ao c cs,v= .slice ao l.length c∧LiesL T I cs l∧(0<l.length→ ∃ad,ao=some ad∧ ∀j u,cs[j]? =some u→w.cell? (ad.add j)=some u)
theorem SrcS.of_rd {w:World} {v:Value} {l:List α} (h:RdS T I v l) (hw:Ok I w) (hs:0<T.size):SrcS T I w v l:=by
 obtain ⟨ao,cap,xs,hv,_,_,hl,hc⟩:=h.cells hw hs
 refine ⟨ao,cap,xs,hv,hl,fun h0=> ?_⟩
 obtain ⟨b,off,arr,rfl,_,_,hcs⟩:=hc h0
 exact ⟨_,rfl,fun j u hu=>by rw [Addr.add_lit];exact hcs j u hu⟩
theorem SrcS.of_one {w:World} {x:α} {cs:List Value} {g:Nat} (hx:T.rd I cs x) (hc:∀j u,cs[j]? =some u→w.cell? ⟨g,j,none⟩=some u):SrcS T I w (.slice (some ⟨g,0,none⟩) 1 1) [x]:=
 ⟨_,_,cs,rfl,LiesL.one hx,fun _=>⟨_,rfl,fun j u hu=>by rw [Addr.add_lit,Nat.zero_add];exact hc j u hu⟩⟩
theorem Xf2 {ts te ty:TypeId} {bytes:Nat} (hE:ElemOk P ts te T bytes) {w:World} {B:Nat} {v:Value} {l:List α} (hown:OwnS T te I w B v l) {vx:Value} {ys:List α} (hy:SrcS T I w vx ys)
 (hbig:(l.length+ys.length)*bytes≤140737488355328) (hl:l.length+ys.length≤9223372036854775807) (hB:B≤w.heap.size):
 ∃v' w',(Builtin.append_ #[ts,ts] ty #[v,vx]).run P w= .ok v' w'∧OwnS T te I w' B v' (l++ys)∧w.grownBy w' v.ownBlock:=by
 obtain ⟨i,z,h1,h2,h3,h4,h5,h6,h7⟩:=hE
 obtain ⟨ao,c,cs,rfl,k1,k2⟩:=hy
 obtain ⟨xs,k3,k4⟩:=hown
 rcases Nat.eq_zero_or_pos ys.length with h0|h0
 ·have:ys= []:=List.eq_nil_of_length_eq_zero h0
  subst this
  have hv:∃b n cap,v= .slice b n cap∧n≤cap:=by
   rcases k3.2 with ⟨h8,_⟩|⟨g,cap,cur,h8,_,_,h9,_⟩
   ·exact ⟨_,_,_,h8,Qn _⟩
   ·exact ⟨_,_,_,h8,h9⟩
  obtain ⟨b,n,cap,rfl,hn⟩:=hv
  refine ⟨_,w,Xde h1 h2 w b ao n cap c hn,⟨xs,by rw [List.append_nil];exact k3,by rw [List.append_nil];exact k4⟩,⟨rfl,rfl,rfl,Qn _,fun _ _ _=>rfl⟩⟩
 ·obtain ⟨ad,rfl,hcs⟩:=k2 h0
  obtain ⟨v',w',hr,r1,r2,_⟩:=run_append_own (P:=P) w B ts ty te i z T.size bytes h1 h2 h3 h4 h5 h6 h7 v l.length xs k3 ad ys.length c cs k1.1 hcs k1.oneCell (by unfold maxLen;omega) hbig hB
  exact ⟨v',w',hr,⟨xs++cs,by rw [List.length_append];exact r1,k4.append k1⟩,r2⟩
theorem Xar {ts te:TypeId} {bytes:Nat} (hE:ElemOk P ts te T bytes) {w:World} {ops:Array Oper} {o:Oper} {a:Act} {K:Act→World→Prop} {Q:Exit→Act→World→Prop} {E:Prop} (hgd:o.guard=none) (s x:Operand)
 (ho:o.op= .call { callee:= .builtin .append,args:= #[s,x],argTypes:= #[ts,ts] }) {B:Nat} {v:Value} {l:List α} (hs:a.eval s=v) (hown:OwnS T te I w B v l) {vx:Value} {ys:List α} (hx:a.eval x=vx) (hy:SrcS T I w vx ys)
 (hbig:(l.length+ys.length)*bytes≤140737488355328) (hl:l.length+ys.length≤9223372036854775807) (hB:B≤w.heap.size)
 (h:∀v' w',OwnS T te I w' B v' (l++ys)→w.grownBy w' v.ownBlock→K (a.put o.dst v') w'):
 if Region.wanted o (yielded ops a.tmps)=true then Oper.wp P o a w K Q else E:=by
 obtain ⟨v',w',hr,h1,h2⟩:=Xf2 (ty:=o.type) hE hown hy hbig hl hB
 rw [if_pos (by simp [Region.wanted,hgd])]
 unfold Oper.wp execOp
 simp only [ho,resolve,invoke,builtin,Sem.run_bind,Sem.run_pure,Result.andThen_ok,List.map_toArray,List.map_cons,List.map_nil,hs,hx,hr]
 exact h v' w' h1 h2
theorem Xcd {ts te:TypeId} {bytes:Nat} (hE:ElemOk P ts te T bytes) {w:World} {ops:Array Oper} {rest:List Oper} {o:Oper} {a:Act} {Q:Exit→Act→World→Prop} (hgd:o.guard=none) (s x:Operand)
 (ho:o.op= .call { callee:= .builtin .append,args:= #[s,x],argTypes:= #[ts,ts] }) {B:Nat} {v:Value} {l:List α} (hs:a.eval s=v) (hown:OwnS T te I w B v l) {vx:Value} {ys:List α} (hx:a.eval x=vx) (hy:SrcS T I w vx ys)
 (hbig:(l.length+ys.length)*bytes≤140737488355328) (hl:l.length+ys.length≤9223372036854775807) (hB:B≤w.heap.size)
 (h:∀v' w',OwnS T te I w' B v' (l++ys)→w.grownBy w' v.ownBlock→wpList P ops Q rest (a.put o.dst v') w'):wpList P ops Q (o::rest) a w:=
 wpList_plain hgd fun K hK=>by
  obtain ⟨v',w',hr,h1,h2⟩:=Xf2 (ty:=o.type) hE hown hy hbig hl hB
  unfold Oper.wp execOp
  simp only [ho,resolve,invoke,builtin,Sem.run_bind,Sem.run_pure,Result.andThen_ok,List.map_toArray,List.map_cons,List.map_nil,hs,hx,hr]
  exact hK _ _ (h v' w' h1 h2)
end
end Go.Proofs.YtdeknddamidldaaGreatDoor
