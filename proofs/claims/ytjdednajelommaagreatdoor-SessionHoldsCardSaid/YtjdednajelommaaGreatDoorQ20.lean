/-
  Walks and laws that the claim's theorem uses: texts BmV EeC SnE Trj HiQ, joined; comments out. Conditions: as each theorem says.
-/
import Derived.Test.YtjdednajelommaaGreatDoorQ19
import Derived.Test.YtjdednajelommaaGreatDoorQ17
set_option linter.unusedSimpArgs false
set_option linter.unusedVariables false
namespace Go.Proofs.YtjdednajelommaaGreatDoor
open Go.RowKit
structure DM (w:World) (B:Nat) (l:List Int) (X:World):Prop where
 below:Below w.heap.size w X
 le:w.heap.size≤B
 lt:B<X.heap.size
 row_:X.heap[B]? =some (.cells (row l) 184 (0,0))
theorem DM.pass {w X X':World} {B:Nat} {l:List Int} (h:DM w B l X) (hb:Below X.heap.size X X'):DM w B l X':=
 ⟨h.below.trans (hb.mono h.below.size),h.le,Nat.lt_of_lt_of_le h.lt hb.size,(hb.block _ h.lt).trans h.row_⟩
theorem DM.set {w X:World} {B:Nat} {l l':List Int} (h:DM w B l X):DM w B l' (X.setRow B (row l')):=
 ⟨below_setRow h.below h.le _,h.le,by simpa using h.lt,setRow_heap _ _ _ _ _ _ h.row_⟩
def DgR (w:World) (B:Nat) (s:Bytes) (v4 v5:Value) (X:World):Prop:=
 (∃i:Nat,i≤lastAt s∧64*i≤s.length∧v4= .int .i64 (64*(i:Int))∧v5= .bool false∧DM w B (hAt s i) X)∨(v4= .int .i64 (s.length:Int)∧v5= .bool true∧DM w B (sumWords s) X)
def bOf:Value→Nat
 | .bool true=>0
 |_=>1
theorem Xtg (G:List Int) (hG:G.length=8) (q r:Nat) (hq:q<8) (hr:r<4):(outTo G 8).take (4*q+r+1)=(outTo G 8).take (4*q+r)++ [(wordBytes (G.getD q 0)).getD r 0]:=by
 obtain ⟨a,b,c,d,e,f,g,h,rfl⟩:=Xmy hG
 rcases (show q=0∨q=1∨q=2∨q=3∨q=4∨q=5∨q=6∨q=7 by omega) with rfl|rfl|rfl|rfl|rfl|rfl|rfl|rfl<;>
  rcases (show r=0∨r=1∨r=2∨r=3 by omega) with rfl|rfl|rfl|rfl<;>rfl
theorem Xq4 (G:List Int) (hG:G.length=8):(outTo G 8).length=32:=by
 obtain ⟨a,b,c,d,e,f,g,h,rfl⟩:=Xmy hG
 rfl
set_option maxRecDepth 100000 in
set_option maxHeartbeats 2000000 in
theorem Xkm (s:Bytes) (hs:s.length≤140737488355328) (w:World):
 Calls Tryz.prog 98 #[S s] w fun e w'=>e= .returned (S (sumP s))∧Below w.heap.size w w':=by
 go_enter Tryz.func98,Tryz.ntmps98
 go_wp2_with fail
 refine (Xe7 _).mono ?_
 rintro e w1 ⟨rfl,hb1⟩
 rw [show row blkIV= #[.int .u32 1779033703,.int .u32 3144134277,.int .u32 1013904242,.int .u32 2773480762,.int .u32 1359893119,.int .u32 2600822924,.int .u32 528734635,.int .u32 1541459225] from rfl]
 go_wp2_with fail
 go_loopw [4,5] (fun s4 s5 wr=>DgR w w1.heap.size s s4 s5 wr) (fun c d _=>(s.length-(intOf c).toNat)+bOf d)
 case atStart=>exact .inl ⟨0,Nat.zero_le _,Nat.zero_le _,rfl,rfl,hb1.alloc hb1.size _,hb1.size,by simp,heap_alloc_new w1 (.cells (row sumStart) 184)⟩
 case round=>
  have hb1s:=hb1.size
  clear hb1
  rcases hrel with ⟨i,hi,hil,rfl,rfl,hm⟩|⟨rfl,rfl,hm⟩
  ·have Hm:=Qh hm
   clear hm
   by_cases hlt:i<lastAt s
   ·have hgt:64*i+64<s.length:=by unfold lastAt at hlt;omega
    have hi1:i+1≤lastAt s:=hlt
    clear hlt hi
    have hw1:IntKind.i64.wrap ((s.length:Int)-64*(i:Int))=(s.length:Int)-64*(i:Int):=IntWalk.i64_in _ (by omega)
    have hw2:IntKind.i64.wrap (64*(i:Int)+64)=64*(i:Int)+64:=IntWalk.i64_in _ (by omega)
    have hw3:(0:Int)≤64*(i:Int):=by omega
    have hw4:(64*(i:Int)+64).toNat=64*i+64:=by omega
    have hw5:(64*(i:Int)).toNat=64*i:=by omega
    have hw6:64*i+64-64*i=64:=by omega
    have hd1:decide (64<(s.length:Int)-64*(i:Int))=true:=by simp;omega
    have Hat:=Qh (show compressP (hAt s i) ((s.drop (64*i)).take 64) (64*(i:Int)+64) false=hAt s (i+1) by rw [hAt,show ((64*i+64:Nat):Int)=64*(i:Int)+64 by omega])
    have hbl:((s.drop (64*i)).take 64).length=64:=by simp;omega
    have hc:((64*(i:Int)+64)==(s.length:Int))=false:=by rw [beq_eq_false_iff_ne];omega
    have hwu:IntKind.u64.wrap (64*(i:Int)+64)=64*(i:Int)+64:=IntWalk.u64_in _ (by omega)
    go_wp2_with fail
    generalize (s.drop (64*i)).take 64=blk at Hat hbl ⊢
    have Hbl:=Qh hbl
    have hbl2:64≤blk.length:=by omega
    clear hbl
    go_loop [7] (fun s7=>s7=S blk) (fun _=>0)
    case atStart=>rfl
    case round=>
     obtain rfl:=hrel
     have hrow:=Hm.out.row_
     have hl8:=Xda s i
     generalize hAt s i=F at hrow hl8 Hat
     have hi8:(Tryz.prog.info? 184).map (·.size)=some (row F).size:=by rw [row_size,hl8];kernel_rfl
     have Hl8:=Qh hl8
     clear hl8
     go_wp2_with (refine wpList_load_row rfl 184 _ rfl w1.heap.size rfl 184 (row F) (0,0) _ hrow Tryz.underlying184 rfl hi8 ?_)
     refine (Xek F Hl8.out blk Hbl.out (64*(i:Int)+64) false _).mono ?_
     rintro e w3 ⟨rfl,hb3⟩
     have Hm3:=Qh (Hm.out.pass hb3)
     have hr3:w3.heap[w1.heap.size]? =some (.cells (row F) 184 (0,0)):=(hb3.block _ Hm.out.lt).trans hrow
     rw [Hat.out]
     have hl9:=Xda s (i+1)
     generalize hG:hAt s (i+1)=G at hl9 ⊢
     have HG:=Qh hG
     have hi9:(Tryz.prog.info? 184).map (·.size)=some (row G).size:=by rw [row_size,hl9];kernel_rfl
     have hz9:(row F).size=(row G).size:=by rw [row_size,row_size,Hl8.out,hl9]
     have ho9:(row G).all (·.oneCell')=true:=by simp [row,Value.oneCell']
     clear hb3 hrow hG hl9
     go_wp2_with (refine wpList_store_row rfl 184 _ _ rfl w1.heap.size (row G) rfl rfl 184 (row F) hr3 hi9 hz9 ho9 ?_)
     simp only [Act.put]
     go_roundw
     case rel=>exact .inl ⟨i+1,by omega,by omega,by go_num,rfl,by rw [HG.out];exact Hm3.out.set⟩
     case measure=>simp [intOf,bOf];omega
   ·have hie:i=lastAt s:=by omega
    have hle:s.length≤64*i+64:=by unfold lastAt at hie;omega
    obtain ⟨m,hm⟩:∃m,s.length-64*i=m:=⟨_,rfl⟩
    have hmi:(s.length:Int)-64*(i:Int)=(m:Int):=by omega
    have hm64:m≤64:=by omega
    have Hsum:=Qh (show compressP (hAt s i) (s.drop (64*i)++List.replicate (64-m) 0) (s.length:Int) true=sumWords s by rw [sumWords,←hie,hm])
    have hdr:(s.drop (64*i)).length=m:=by simp;omega
    have htk:(s.drop (64*i)).take m=s.drop (64*i):=List.take_of_length_le (by omega)
    have hw1:IntKind.i64.wrap ((s.length:Int)-64*(i:Int))=(m:Int):=by rw [hmi];exact IntWalk.i64_in _ (by omega)
    have hw2:IntKind.i64.wrap (64*(i:Int)+(m:Int))=(s.length:Int):=by rw [IntWalk.i64_in _ (by omega)];omega
    have hw3:(0:Int)≤64*(i:Int):=by omega
    have hw5:(64*(i:Int)).toNat=64*i:=by omega
    have hw7:s.length-64*i=m:=hm
    have hw8:64*(i:Int)≤(s.length:Int):=by omega
    have hwu:IntKind.u64.wrap (s.length:Int)=(s.length:Int):=IntWalk.u64_in _ (by omega)
    clear hm hie hlt hmi hdr
    go_wp2_with fail
    generalize hblk:s.drop (64*i)=blk at Hsum ⊢
    have hbl:blk.length=m:=by rw [←hblk];simp;omega
    clear hblk hw1 hw2 hw3 hw5 hw7 hw8
    have Hbl:=Qh hbl
    have hbl2:blk.length≤64:=by omega
    have hwc:((s.length:Int)==(s.length:Int))=true:=beq_self_eq_true _
    clear hbl
    go_loop [7] (fun s7=> ∃j:Nat,j+m≤64∧s7=S (blk++List.replicate j 0)) (fun v=>match v with| .string b=>64-b.size|_=>0)
    case atStart=>exact ⟨0,by omega,by simp⟩
    case round=>
     obtain ⟨j,hj,rfl⟩:=hrel
     have hjl:(blk++List.replicate j (0:UInt8)).length=m+j:=by rw [List.length_append,List.length_replicate,Hbl.out]
     have Hjs:=Qh (show blk++List.replicate j (0:UInt8)++ [0]=blk++List.replicate (j+1) 0 by rw [List.replicate_succ',List.append_assoc])
     have Hjl:=Qh hjl
     generalize hx:blk++List.replicate j (0:UInt8)=x at hjl Hjs Hjl ⊢
     have Hx:=Qh hx
     clear hx
     by_cases hlt64:j+m<64
     ·have hx64:x.length<64:=by omega
      clear hjl
      go_wp2
      go_round
      case rel=>exact ⟨j+1,by omega,by rw [Hjs.out]⟩
      case measure=>simp [ByteArray.size];omega
     ·have hx64:64≤x.length:=by omega
      have Hx64:=Qh (show x.length=64 by omega)
      have Hxe:=Qh (show x=blk++List.replicate (64-m) 0 by rw [←Hx.out,show 64-m=j by omega])
      clear hjl
      have hrow:=Hm.out.row_
      have hl8:=Xda s i
      generalize hAt s i=F at hrow hl8 Hsum
      have hi8:(Tryz.prog.info? 184).map (·.size)=some (row F).size:=by rw [row_size,hl8];kernel_rfl
      have Hl8:=Qh hl8
      clear hl8
      go_wp2_with (refine wpList_load_row rfl 184 _ rfl w1.heap.size rfl 184 (row F) (0,0) _ hrow Tryz.underlying184 rfl hi8 ?_)
      refine (Xek F Hl8.out x Hx64.out (s.length:Int) true _).mono ?_
      rintro e w3 ⟨rfl,hb3⟩
      have Hm3:=Qh (Hm.out.pass hb3)
      have hr3:w3.heap[w1.heap.size]? =some (.cells (row F) 184 (0,0)):=(hb3.block _ Hm.out.lt).trans hrow
      have hl9:(compressP F x (s.length:Int) true).length=8:=Xbb ..
      generalize hG:compressP F x (s.length:Int) true=G at hl9 ⊢
      have HG:=Qh (show sumWords s=G by rw [←Hsum.out,←Hxe.out,hG])
      have hi9:(Tryz.prog.info? 184).map (·.size)=some (row G).size:=by rw [row_size,hl9];kernel_rfl
      have hz9:(row F).size=(row G).size:=by rw [row_size,row_size,Hl8.out,hl9]
      have ho9:(row G).all (·.oneCell')=true:=by simp [row,Value.oneCell']
      clear hb3 hrow hG hl9
      go_wp2_with (refine wpList_store_row rfl 184 _ _ rfl w1.heap.size (row G) rfl rfl 184 (row F) hr3 hi9 hz9 ho9 ?_)
      simp only [Act.put]
      go_roundw
      case rel=>exact .inr ⟨rfl,rfl,by rw [HG.out];exact Hm3.out.set⟩
      case measure=>simp [intOf,bOf]
  ·have Hm:=Qh hm
   clear hm
   have hlG:(sumWords s).length=8:=Xbb ..
   obtain ⟨G,hG⟩:∃G,sumWords s=G:=⟨_,rfl⟩
   have HG:=Qh hG
   rw [hG] at hlG Hm
   clear hG
   go_wp2_with fail
   have hBs:=Hm.out.lt
   have hown0:OwnS tB 5 (fun _=>none) wr wr.heap.size (.slice none 0 0) ((outTo G 8).take 0):=OwnS.nil _ _ _ _ _
   have Hown0:=Qh hown0
   have hB0:w.heap.size≤wr.heap.size:=Hm.out.below.size
   clear hown0 hb1s
   generalize hB0e:wr.heap.size=B0 at hBs Hown0 hB0
   have HB0e:=Qh (Nat.le_of_eq hB0e.symm)
   clear hB0e
   have hol:=Xq4 G hlG
   generalize w1.heap.size=B at hBs Hm ⊢
   go_loopw [8,9] (fun s8 s9 X=> ∃k:Nat,k≤32∧s9= .int .i64 k∧OwnS tB 5 (fun _=>none) X B0 s8 ((outTo G 8).take k)∧X.heap[B]? =some (.cells (row G) 184 (0,0))∧Below w.heap.size w X∧B0≤X.heap.size) (fun _ k _=>32-(intOf k).toNat)
   case atStart=>exact ⟨0,Nat.zero_le _,rfl,Hown0.out,Hm.out.row_,Hm.out.below,HB0e.out⟩
   case round=>
    clear Hown0 Hm HB0e
    obtain ⟨k,hk,rfl,hown,hrow,hb,hsz⟩:=hrel
    have Hown:=Qh hown
    by_cases hlt:k<32
    ·obtain ⟨q,r,hq,hr,hkq⟩:∃q r,q<8∧r<4∧k=4*q+r:=⟨k / 4,k%4,by omega,by omega,by omega⟩
     have hdiv:(k:Int) / 4=(q:Int):=by omega
     have hqi:(q:Int)<8:=by omega
     have Hst:=Qh (show (outTo G 8).take (k+1)=(outTo G 8).take k++ [(wordBytes (G.getD q 0)).getD r 0] by rw [hkq];exact Xtg G hlG q r hq hr)
     have c0:=(cell_of_row wr _ q _ _ _ hrow).trans (Xa8 (l:=G) (by omega))
     have hlk:((outTo G 8).take k).length≤32:=by rw [List.length_take];omega
     have Hkq:=Qh hkq
     have Hrow:=Qh hrow
     clear hkq hown hrow hol
     generalize G.getD q 0=x0 at c0 Hst
     rcases (show r=0∨r=1∨r=2∨r=3 by omega) with rfl|rfl|rfl|rfl
     ·have hmod:(k:Int)%4=0:=by have:=Hkq.out;omega
      go_wp2_with (at_builtin;refine Xat (w0:=wr) Xgs rfl _ _ rfl _ _ _ rfl Hown.out (x0%256) [.int .u8 (x0%256)] _ rfl rfl (by omega) (by omega) hsz ?_)
      intro v5 w5 hown5 hg5
      have hb5:=Below.own hb hg5 Hown.out hB0 hsz
      have hr5:=(hg5.block B (by omega) (fun e=>Hown.out.ne_lt hBs e.symm)).trans Hrow.out
      have hs5:=hg5.size
      have Hown5:=Qh hown5
      have Hr5:=Qh hr5
      clear hown5 hr5 hg5 Hown Hrow
      go_wp2
      go_roundw
      case rel=>exact ⟨k+1,by omega,by go_num,by rw [Hst.out];exact Hown5.out,Hr5.out,hb5,by omega⟩
      case measure=>simp [intOf];omega
     ·have hmod:(k:Int)%4=1:=by have:=Hkq.out;omega
      go_wp2_with (at_builtin;refine Xat (w0:=wr) Xgs rfl _ _ rfl _ _ _ rfl Hown.out (x0 / 256%256) [.int .u8 (x0 / 256%256)] _ rfl rfl (by omega) (by omega) hsz ?_)
      intro v5 w5 hown5 hg5
      have hb5:=Below.own hb hg5 Hown.out hB0 hsz
      have hr5:=(hg5.block B (by omega) (fun e=>Hown.out.ne_lt hBs e.symm)).trans Hrow.out
      have hs5:=hg5.size
      have Hown5:=Qh hown5
      have Hr5:=Qh hr5
      clear hown5 hr5 hg5 Hown Hrow
      go_wp2
      go_roundw
      case rel=>exact ⟨k+1,by omega,by go_num,by rw [Hst.out];exact Hown5.out,Hr5.out,hb5,by omega⟩
      case measure=>simp [intOf];omega
     ·have hmod:(k:Int)%4=2:=by have:=Hkq.out;omega
      go_wp2_with (at_builtin;refine Xat (w0:=wr) Xgs rfl _ _ rfl _ _ _ rfl Hown.out (x0 / 65536%256) [.int .u8 (x0 / 65536%256)] _ rfl rfl (by omega) (by omega) hsz ?_)
      intro v5 w5 hown5 hg5
      have hb5:=Below.own hb hg5 Hown.out hB0 hsz
      have hr5:=(hg5.block B (by omega) (fun e=>Hown.out.ne_lt hBs e.symm)).trans Hrow.out
      have hs5:=hg5.size
      have Hown5:=Qh hown5
      have Hr5:=Qh hr5
      clear hown5 hr5 hg5 Hown Hrow
      go_wp2
      go_roundw
      case rel=>exact ⟨k+1,by omega,by go_num,by rw [Hst.out];exact Hown5.out,Hr5.out,hb5,by omega⟩
      case measure=>simp [intOf];omega
     ·have hmod:(k:Int)%4=3:=by have:=Hkq.out;omega
      go_wp2_with (at_builtin;refine Xat (w0:=wr) Xgs rfl _ _ rfl _ _ _ rfl Hown.out (x0 / 16777216%256) [.int .u8 (x0 / 16777216%256)] _ rfl rfl (by omega) (by omega) hsz ?_)
      intro v5 w5 hown5 hg5
      have hb5:=Below.own hb hg5 Hown.out hB0 hsz
      have hr5:=(hg5.block B (by omega) (fun e=>Hown.out.ne_lt hBs e.symm)).trans Hrow.out
      have hs5:=hg5.size
      have Hown5:=Qh hown5
      have Hr5:=Qh hr5
      clear hown5 hr5 hg5 Hown Hrow
      go_wp2
      go_roundw
      case rel=>exact ⟨k+1,by omega,by go_num,by rw [Hst.out];exact Hown5.out,Hr5.out,hb5,by omega⟩
      case measure=>simp [intOf];omega
    ·have hke:k=32:=by omega
     have hfull:(outTo G 8).take k=outTo G 8:=List.take_of_length_le (by omega)
     have hret:(outTo G 8).map (fun x=>UInt8.ofNat x.toNat)=sumP s:=by rw [sumP,HG.out]
     rw [hfull] at hown
     have hpos:0<(outTo G 8).length:=by omega
     have hcv:=Xjv (P:=Tryz.prog) Tryz.underlying72 Tryz.underlying5 Tryz.underlying9 wr hown hpos
     rw [hret] at hcv
     clear hown hpos hke hfull hret hrow Hown hol hlG
     go_wp2
     go_ret
     exact ⟨rfl,hb⟩
def sumPart (s:Bytes) (k:Nat):Bytes:=if k=0 then [] else s
set_option maxRecDepth 100000 in
set_option maxHeartbeats 400000 in
theorem Xfp (b off cap:Nat) (s:Bytes) (hs:s.length≤140737488355328) (w:World) (hc:w.cell? ⟨b,off,none⟩=some (S s)):
 Calls Tryz.prog 55 #[.slice (some ⟨b,off,none⟩) 1 cap] w fun e w'=>e= .returned (S (sumP s))∧Below w.heap.size w w':=by
 go_enter Tryz.func55,Tryz.ntmps55
 go_wp2_with fail
 go_loop [3,4] (fun s3 s4=> ∃k:Nat,k≤1∧s4= .int .i64 k∧s3=S (sumPart s k)) (fun _ k=>1-(intOf k).toNat)
 case atStart=>exact ⟨0,by omega,rfl,rfl⟩
 case round=>
  obtain ⟨k,hk,rfl,rfl⟩:=hrel
  by_cases hlt:k<1
  ·have hk0:k=0:=by omega
   subst hk0
   rw [show sumPart s 0= [] from rfl]
   go_wp2
   go_round
   case rel=>exact ⟨1,by omega,by go_num,rfl⟩
   case measure=>simp [intOf]
  ·have hk1:k=1:=by omega
   subst hk1
   rw [show sumPart s 1=s from rfl]
   go_wp2_with fail
   refine (Xkm s hs _).mono ?_
   rintro e w1 ⟨rfl,hb1⟩
   go_wp2
   go_ret
   exact ⟨rfl,hb1⟩
theorem Xth (k:Int) (w:World):Calls Tryz.prog 101 #[.int .i64 k] w fun e w'=>e= .returned (S (nameP k))∧Below w.heap.size w w':=
 (Xig k w).mono fun _ _ h=>⟨h.1,by rw [h.2];exact Qb _ _⟩
set_option maxRecDepth 100000 in
set_option maxHeartbeats 2000000 in
theorem Xo8 (I:IH) (e:Ent) (va vx:Value) (hva:RdS tAt I va e.attrs) (hvx:RdS tXt I vx e.exts) (hc:EncOk e) (w:World) (hw:Ok I w):
 Calls Tryz.prog 201 #[entV e va vx] w fun r w'=>r= .returned (S (headE e))∧Below w.heap.size w w':=by
 obtain ⟨aa,ca,rfl,_,_,_⟩:=id hva
 obtain ⟨ax,cx,rfl,_,_,_⟩:=id hvx
 have Hv:=Qh hva
 have hna:=hc.natt
 have hp200:=hc.path
 have ht200:=hc.target
 have Hat:=Qh hc.att
 have Hl:=Qh (Xon hna Hat.out)
 have hl0:=Hl.out 0
 have hnn:=Xfd e.kind
 have hl1:=Xay (nameP e.kind) (by omega)
 have hl2:=Xay e.path (by omega)
 have hl4:=Xay e.target (by omega)
 have H0:=Qh (fun w=>Xth e.kind w)
 have H1:=Qh (fun w=>Xbd (nameP e.kind) (by omega) w)
 have H2:=Qh (fun w=>Xbd e.path (by omega) w)
 have H3:=Qh (fun w=>Xb3 e.attrs.length (by omega) w)
 have H4:=Qh (fun w=>Xbd e.target (by omega) w)
 have hz:numP e.attrs.length=attK e.attrs 0:=by rw [attK,List.take_zero,List.flatMap_nil,List.append_nil]
 have Hh:=Qh (show netP (nameP e.kind)++netP e.path++attP e.attrs++netP e.target=headE e from rfl)
 rw [hz] at H3
 clear hva hvx hc hz
 generalize netP (nameP e.kind)=p1 at hl1 H1 Hh
 generalize nameP e.kind=nm at hnn hl1 H0 H1
 generalize netP e.path=p2 at hl2 H2 Hh
 generalize netP e.target=p4 at hl4 H4 Hh
 have HB0:=Qh (entB (W:=w) (e:=e) (va:= .slice aa e.attrs.length ca) (vx:= .slice ax e.exts.length cx) (t:=68) rfl (Qb _ _))
 obtain ⟨c0,c1,c2,c3,c4,c5,c6⟩:=HB0.out
 have e0:=cell_regrown c0
 have e1:=cell_regrown c1
 have e2:=cell_regrown c2
 have hba:=(Qb w.heap.size w).alloc (Qn _) (.cells #[.int .i64 e.kind,S e.path,.slice aa e.attrs.length ca,S e.target,.int .i64 e.size,S e.digest,.slice ax e.exts.length cx] 68)
 clear c0 c1 c2 c3 c4 c5 c6
 go_enter Tryz.func201,Tryz.ntmps201
 go_wp2_with fail
 refine wp_region_quiet_below (by kernel_rfl) (by kernel_rfl) ?_
 repeat (go_big_quiet_step ((with_reducible first|exact Calls.regrown_of (H0.out _)|exact Calls.regrown_of (H1.out _)|exact Calls.regrown_of (H2.out _)|exact Calls.regrown_of (H3.out _))))
 refine wpQuiet_nil ?_
 intro w1 hwq
 have hb1:Below ((w.alloc (.cells #[.int .i64 e.kind,S e.path,.slice aa e.attrs.length ca,S e.target,.int .i64 e.size,S e.digest,.slice ax e.exts.length cx] 68))).heap.size ((w.alloc (.cells #[.int .i64 e.kind,S e.path,.slice aa e.attrs.length ca,S e.target,.int .i64 e.size,S e.digest,.slice ax e.exts.length cx] 68))) w1:=by
  obtain ⟨pq,rfl⟩:=hwq
  exact below_regrown _ _ _
 clear hwq
 have HB1:=Qh (HB0.out.thru hb1)
 have hb1':=hba.trans (hb1.mono hba.size)
 clear e0 e1 e2 hb1 hba HB0 H0 H1 H2 H3
 go_wp2_with fail
 go_loopw [3,4] (fun s3 s4 wr=> ∃k:Nat,k≤e.attrs.length∧s4= .int .i64 k∧s3=S (p1++p2++attK e.attrs k)∧EntB wr w.heap.size e (.slice aa e.attrs.length ca) (.slice ax e.exts.length cx)∧Below w.heap.size w wr) (fun _ i _=>e.attrs.length-(intOf i).toNat)
 case atStart=>exact ⟨0,Nat.zero_le _,rfl,by simp,HB1.out,hb1'⟩
 case round=>
  clear hb1' HB1
  obtain ⟨k,hk,rfl,rfl,hBe,hb⟩:=hrel
  have HBe:=Qh hBe
  have hwr:Ok I wr:=hw.below (Qn _) hb
  have hal:=Hl.out k
  obtain ⟨c0,c1,c2,c3,c4,c5,c6⟩:=HBe.out
  clear hBe
  by_cases hlt:k<e.attrs.length
  ·obtain ⟨x,b,off,cap',hlx,hvv,a0,a1⟩:=atAt Hv.out hwr k hlt
   cases hvv
   have hax:=Hat.out x (by rw [←hlx];exact List.getElem_mem hlt)
   have Hst:=Qh (Xl2 hlt hlx)
   have hk1:=Xay x.k (by omega)
   have hk2:=Xay x.v (by omega)
   have Hs1:=Qh (fun w=>Xbd x.k (by omega) w)
   have Hs2:=Qh (fun w=>Xbd x.v (by omega) w)
   clear hlx
   generalize netP x.k=p at Hst hk1 Hs1
   generalize netP x.v=q at Hst hk2 Hs2
   generalize attK e.attrs k=u at Hst hal ⊢
   have x0:=cell_regrown a0
   have x1:=cell_regrown a1
   have e2:=cell_regrown c2
   go_wp2_with fail
   refine wp_region_quiet_below (by kernel_rfl) (by kernel_rfl) ?_
   repeat (go_big_quiet_step ((with_reducible first|exact Calls.regrown_of (Hs1.out _)|exact Calls.regrown_of (Hs2.out _))))
   refine wpQuiet_nil ?_
   intro w2 hwq
   have hb2:Below (wr).heap.size (wr) w2:=by
    obtain ⟨pq,rfl⟩:=hwq
    exact below_regrown _ _ _
   clear hwq
   have HB2:=Qh (HBe.out.thru hb2)
   clear x0 x1 e2 c0 c1 c2 c3 c4 c5 c6
   go_wp2
   go_roundw
   case rel=>exact ⟨k+1,by omega,by go_num,(by rw [Hst.out];simp),HB2.out,hb.trans (hb2.mono hb.size)⟩
   case measure=>simp [intOf];omega
  ·have Hn:=Qh (Xoo e.attrs (k:=k) (by omega))
   rw [Hn.out] at hal ⊢
   generalize attP e.attrs=u at hal Hh ⊢
   go_wp2_with fail
   refine (H4.out _).mono ?_
   rintro r w2 ⟨rfl,hb2⟩
   go_wp2
   go_ret
   exact ⟨Xo6 (by rw [←Hh.out];simp),hb.trans (hb2.mono hb.size)⟩
set_option maxRecDepth 100000 in
set_option maxHeartbeats 400000 in
theorem Xqt (I:IH) (e:Ent) (va vx:Value) (hva:RdS tAt I va e.attrs) (hvx:RdS tXt I vx e.exts) (hwf:e.Wf) (hx:e.exts.length≤1000) (he:entErr e≠0) (w:World) (hw:Ok I w):
 Calls Tryz.prog 147 #[entV e va vx] w fun r w'=>r= .returned (.tuple #[S [],.int .i64 (entErr e)])∧Below w.heap.size w w':=by
 have Hck:=Qh (fun w hw=>Xg3 I e va vx hva hvx hwf w hw)
 obtain ⟨aa,ca,rfl,_,_,_⟩:=id hva
 obtain ⟨ax,cx,rfl,_,_,_⟩:=id hvx
 rw [Xir (by omega)] at Hck
 obtain ⟨q,hq⟩:∃q,entErr e=q:=⟨_,rfl⟩
 rw [hq] at Hck he ⊢
 have hn0:(q != 0)=true:=by simpa using he
 clear hq he
 go_enter Tryz.func147,Tryz.ntmps147
 go_wp2_with fail
 refine (Hck.out _ (hw.alloc _)).mono ?_
 rintro e1 w1 ⟨rfl,hb1⟩
 have hb1':=((Qb w.heap.size w).alloc (Qn _) (.cells #[.int .i64 e.kind,S e.path,.slice aa e.attrs.length ca,S e.target,.int .i64 e.size,S e.digest,.slice ax e.exts.length cx] 68)).trans (hb1.mono (by simp))
 go_wp2
 go_ret2
 exact ⟨rfl,hb1'⟩
set_option maxRecDepth 100000 in
set_option maxHeartbeats 2000000 in
theorem Xkj (I:IH) (e:Ent) (va vx:Value) (hva:RdS tAt I va e.attrs) (hvx:RdS tXt I vx e.exts) (hwf:e.Wf) (hc:EncOk e) (he:entErr e=0) (hx:e.exts.length≤1000) (w:World) (hw:Ok I w):
 Calls Tryz.prog 147 #[entV e va vx] w fun r w'=>r= .returned (.tuple #[S (encE e),.int .i64 0])∧Below w.heap.size w w':=by
 have Hck:=Qh (fun w hw=>Xg3 I e va vx hva hvx hwf w hw)
 have H0:=Qh (fun w hw=>Xo8 I e va vx hva hvx hc w hw)
 obtain ⟨aa,ca,rfl,_,_,_⟩:=id hva
 obtain ⟨ax,cx,rfl,_,_,_⟩:=id hvx
 rw [Xir (by omega),he] at Hck
 have Hv:=Qh hvx
 have hs0:=hc.s0
 have hs1:=hc.s1
 have hd32:=hc.digest
 have Hxs:=Qh hc.xts
 have Hl:=Qh (Xjq hc hx)
 have hhl:=Xhl hc
 have Hz:=Qh (show netP (headE e)++numP e.size++netP e.digest++numP e.exts.length=encK e 0 from (Xlh e).symm)
 have hl1:=Xay (headE e) (by omega)
 have hl2:=Xbk hs0 (by omega)
 have hl3:=Xay e.digest (by omega)
 have hl4:=Xbq e.exts.length (by omega)
 have H1:=Qh (fun w=>Xbd (headE e) (by omega) w)
 have H2:=Qh (fun w=>Xfs e.size hs0 (by omega) w)
 have H3:=Qh (fun w=>Xbd e.digest (by omega) w)
 have H4:=Qh (fun w=>Xb3 e.exts.length (by omega) w)
 clear hva hvx hc he
 generalize netP (headE e)=p1 at Hz hl1 H1
 generalize numP e.size=p2 at Hz hl2 H2
 generalize netP e.digest=p3 at Hz hl3 H3
 generalize numP (e.exts.length:Int)=p4 at Hz hl4 H4
 generalize headE e=hd at H0 H1 hhl hl1
 go_enter Tryz.func147,Tryz.ntmps147
 go_wp2_with fail
 refine (Hck.out _ (hw.alloc _)).mono ?_
 rintro e1 w1 ⟨rfl,hb1⟩
 have HB1:=Qh (entB (e:=e) rfl hb1)
 have hok1:Ok I w1:=(hw.alloc _).below (Qn _) hb1
 have hb1':=((Qb w.heap.size w).alloc (Qn _) (.cells #[.int .i64 e.kind,S e.path,.slice aa e.attrs.length ca,S e.target,.int .i64 e.size,S e.digest,.slice ax e.exts.length cx] 68)).trans (hb1.mono (by simp))
 obtain ⟨c0,c1,c2,c3,c4,c5,c6⟩:=HB1.out
 have e0:=cell_regrown c0
 have e1:=cell_regrown c1
 have e2:=cell_regrown c2
 have e3:=cell_regrown c3
 have e4:=cell_regrown c4
 have e5:=cell_regrown c5
 have e6:=cell_regrown c6
 clear hb1 Hck c0 c1 c2 c3 c4 c5 c6
 go_wp2_with fail
 refine wp_region_quiet_below (by kernel_rfl) (by kernel_rfl) ?_
 repeat (go_big_quiet_step ((with_reducible first|exact Calls.regrown_of (H0.out _ (hok1.below (Qn _) (below_regrown _ _ _)))|exact Calls.regrown_of (H1.out _)|exact Calls.regrown_of (H2.out _)|exact Calls.regrown_of (H3.out _)|exact Calls.regrown_of (H4.out _))))
 refine wpQuiet_nil ?_
 intro w2 hwq
 have hb2:Below (w1).heap.size (w1) w2:=by
  obtain ⟨pq,rfl⟩:=hwq
  exact below_regrown _ _ _
 clear hwq
 have HB2:=Qh (HB1.out.thru hb2)
 have hb2':=hb1'.trans (hb2.mono hb1'.size)
 clear e0 e1 e2 e3 e4 e5 e6 hb2 HB1 hok1 hb1' H0 H1 H2 H3 H4
 go_wp2_with fail
 go_loopw [5,6] (fun s5 s6 wr=> ∃k:Nat,k≤e.exts.length∧s6= .int .i64 k∧s5=S (encK e k)∧EntB wr w.heap.size e (.slice aa e.attrs.length ca) (.slice ax e.exts.length cx)∧Below w.heap.size w wr) (fun _ i _=>e.exts.length-(intOf i).toNat)
 case atStart=>exact ⟨0,Nat.zero_le _,rfl,by rw [←Hz.out];simp,HB2.out,hb2'⟩
 case round=>
  clear HB2 hb2' Hz hl1 hl2 hl3 hl4 hhl
  obtain ⟨k,hk,rfl,rfl,hBe,hb⟩:=hrel
  have HBe:=Qh hBe
  have hwr:Ok I wr:=hw.below (Qn _) hb
  have hal:=Hl.out k
  obtain ⟨c0,c1,c2,c3,c4,c5,c6⟩:=HBe.out
  clear hBe
  by_cases hlt:k<e.exts.length
  ·obtain ⟨x,b,off,cap',hlx,hvv,a0,a1,a2⟩:=xtAt Hv.out hwr k hlt
   cases hvv
   obtain ⟨y0,y1,y2,y3,y4,y5⟩:=Hxs.out x (by rw [←hlx];exact List.getElem_mem hlt)
   have Hst:=Qh (Xli hlt hlx)
   have hm1:=Xbk (n:=x.s) (by omega) (by omega)
   have hm2:=Xbk (n:=x.o) (by omega) (by omega)
   have hm3:=Xbk (n:=x.n) (by omega) (by omega)
   have H1:=Qh (fun w=>Xfs x.s (by omega) (by omega) w)
   have H2:=Qh (fun w=>Xfs x.o (by omega) (by omega) w)
   have H3:=Qh (fun w=>Xfs x.n (by omega) (by omega) w)
   have g0:=cell_regrown (show (wr.alloc (.cells #[.int .i64 x.s,.int .i64 x.o,.int .i64 x.n] 91)).cell? ⟨wr.heap.size,0,none⟩=some (.int .i64 x.s) by simp)
   have g1:=cell_regrown (show (wr.alloc (.cells #[.int .i64 x.s,.int .i64 x.o,.int .i64 x.n] 91)).cell? ⟨wr.heap.size,1,none⟩=some (.int .i64 x.o) by simp)
   have g2:=cell_regrown (show (wr.alloc (.cells #[.int .i64 x.s,.int .i64 x.o,.int .i64 x.n] 91)).cell? ⟨wr.heap.size,2,none⟩=some (.int .i64 x.n) by simp)
   have HBa:=Qh (EntB.past HBe.out (.cells #[.int .i64 x.s,.int .i64 x.o,.int .i64 x.n] 91))
   have hba:=hb.alloc hb.size (.cells #[.int .i64 x.s,.int .i64 x.o,.int .i64 x.n] 91)
   clear hlx
   generalize numP x.s=q1 at Hst hm1 H1
   generalize numP x.o=q2 at Hst hm2 H2
   generalize numP x.n=q3 at Hst hm3 H3
   generalize encK e k=u at Hst hal ⊢
   go_wp2_with fail
   refine wp_region_quiet_below (by kernel_rfl) (by kernel_rfl) ?_
   repeat (go_big_quiet_step ((with_reducible first|exact Calls.regrown_of (H1.out _)|exact Calls.regrown_of (H2.out _)|exact Calls.regrown_of (H3.out _))))
   refine wpQuiet_nil ?_
   intro w2 hwq
   have hb2:Below ((wr.alloc (.cells #[.int .i64 x.s,.int .i64 x.o,.int .i64 x.n] 91))).heap.size ((wr.alloc (.cells #[.int .i64 x.s,.int .i64 x.o,.int .i64 x.n] 91))) w2:=by
    obtain ⟨pq,rfl⟩:=hwq
    exact below_regrown _ _ _
   clear hwq
   have HB2:=Qh (HBa.out.thru hb2)
   clear g0 g1 g2 a0 a1 a2 c0 c1 c2 c3 c4 c5 c6
   go_wp2
   go_roundw
   case rel=>exact ⟨k+1,by omega,by go_num,(by rw [Hst.out];simp),HB2.out,hba.trans (hb2.mono hba.size)⟩
   case measure=>simp [intOf];omega
  ·have Hn:=Qh (Xjr e (k:=k) (by omega))
   rw [Hn.out]
   go_wp2
   go_ret2
   exact ⟨rfl,hb⟩
abbrev r39L (n:Nat) (num date:Int) (prev st p1 p2 p3 p4 sm p6 p7 v6 v10 v15 v21 v26:Bytes) (ao:Option Addr) (le co:Nat) (x:Nat × Nat):List (Option Tmp × Value):=
 [(some 7,.pointer (some ⟨n,0,none⟩)),(some 8,.int .i64 num),(some 9,S p1),(some 10,.pointer (some ⟨n,1,none⟩)),(some 11,.int .i64 date),(some 12,S p2),(some 13,S v6),(some 14,.pointer (some ⟨n,2,none⟩)),(some 15,S prev),(some 16,S p3),(some 17,S v10),(some 18,.pointer (some ⟨n,4,none⟩)),(some 19,S st),(some 20,.int .i64 (st.length:Int)),(some 21,S p4),(some 22,S v15),(some 23,.pointer (some ⟨n,4,none⟩)),(some 24,S st),(some 25,.slice (some ⟨x.1,0,none⟩) 1 1),(some 26,S sm),(some 27,S p6),(some 28,S v21),(some 29,.pointer (some ⟨n,3,none⟩)),(some 30,.slice ao le co),(some 31,.int .i64 (le:Int)),(some 32,S p7),(some 33,S v26),(some 3,S v26)]
theorem Xac {n:Nat} {num date:Int} {prev st p1 p2 p3 p4 sm p6 p7 v6 v10 v15 v21 v26:Bytes} {ao:Option Addr} {le co:Nat} {x:Nat × Nat}:ApartF (r39L n num date prev st p1 p2 p3 p4 sm p6 p7 v6 v10 v15 v21 v26 ao le co x):=by
 unfold ApartF
 simp
set_option maxRecDepth 100000 in
set_option maxHeartbeats 4000000 in
theorem Xpc (I:IH) (s:Ses) (ve:Value) (hve:RdS tEnt I ve s.ents) (hg:SesD s) (w:World) (hw:Ok I w):
 Calls Tryz.prog 94 #[sesV s ve] w fun r w'=>r= .returned (S (sumP (sesText s)))∧Below w.heap.size w w':=by
 obtain ⟨ao,co,rfl,_,_,_⟩:=id hve
 have Hv:=Qh hve
 have Hg:=Qh hg
 have hnm:=hg.num
 have hdt:=hg.date
 have hn30:=hg.nents
 have hst:=hg.stream
 have hpv:=hg.prev
 have Hkl:=Qh (fun k=>Xnn hg k)
 have hm1:=Xbk (n:=s.num) (by omega) (by omega)
 have hm2:=Xbk (n:=s.date) (by omega) (by omega)
 have hm3:=Xay s.prev (by omega)
 have hm4:=Xbq s.stream.length (by omega)
 have hsm:=Xde s.stream
 have hm5:=Xay (sumP s.stream) (by omega)
 have hm6:=Xbq s.ents.length (by omega)
 have H1:=Qh (fun w=>Xfs s.num (by omega) (by omega) w)
 have H2:=Qh (fun w=>Xfs s.date (by omega) (by omega) w)
 have H3:=Qh (fun w=>Xbd s.prev (by omega) w)
 have H4:=Qh (fun w=>Xb3 s.stream.length (by omega) w)
 have H5:=Qh (fun b w hc=>Xfp b 0 1 s.stream (by omega) w hc)
 have H6:=Qh (fun w=>Xbd (sumP s.stream) (by omega) w)
 have H7:=Qh (fun w=>Xb3 s.ents.length (by omega) w)
 have Hh:=Qh (show numP s.num++numP s.date++netP s.prev++numP s.stream.length++netP (sumP s.stream)++numP s.ents.length=sesK s 0 by
  rw [sesK,List.take_zero];simp [sesHead])
 clear hve hg hnm hdt
 generalize numP s.num=p1 at hm1 H1 Hh
 generalize numP s.date=p2 at hm2 H2 Hh
 generalize netP s.prev=p3 at hm3 H3 Hh
 generalize numP (s.stream.length:Int)=p4 at hm4 H4 Hh
 generalize netP (sumP s.stream)=p6 at hm5 H6 Hh
 generalize sumP s.stream=sm at hsm hm5 H5 H6
 generalize numP (s.ents.length:Int)=p7 at hm6 H7 Hh
 obtain ⟨T,hT⟩:∃T,sumP (sesText s)=T:=⟨_,rfl⟩
 rw [hT]
 have HT:=Qh hT
 clear hT
 obtain ⟨v6,hv6⟩:∃v,p1++p2=v:=⟨_,rfl⟩
 obtain ⟨v10,hv10⟩:∃v,v6++p3=v:=⟨_,rfl⟩
 obtain ⟨v15,hv15⟩:∃v,v10++p4=v:=⟨_,rfl⟩
 obtain ⟨v21,hv21⟩:∃v,v15++p6=v:=⟨_,rfl⟩
 obtain ⟨v26,hv26⟩:∃v,v21++p7=v:=⟨_,rfl⟩
 have l6:v6.length=p1.length+p2.length:=by rw [←hv6,List.length_append]
 have l10:v10.length=v6.length+p3.length:=by rw [←hv10,List.length_append]
 have l15:v15.length=v10.length+p4.length:=by rw [←hv15,List.length_append]
 have l21:v21.length=v15.length+p6.length:=by rw [←hv21,List.length_append]
 have Hv26:=Qh (show v26=sesK s 0 by rw [←Hh.out,hv6,hv10,hv15,hv21,hv26])
 have d6:¬9223372036854775807<p1.length+p2.length:=by omega
 have d10:¬9223372036854775807<v6.length+p3.length:=by omega
 have d15:¬9223372036854775807<v10.length+p4.length:=by omega
 have d21:¬9223372036854775807<v15.length+p6.length:=by omega
 have d26:¬9223372036854775807<v21.length+p7.length:=by omega
 clear l6 l10 l15 l21 Hh
 obtain ⟨w1,hW1⟩:∃w1,w.alloc (.cells #[.int .i64 s.num,.int .i64 s.date,S s.prev,.slice ao s.ents.length co,S s.stream,S s.sl] 56)=w1:=⟨_,rfl⟩
 have HB1:=Qh (show SesB w1 w.heap.size s (.slice ao s.ents.length co) by rw [←hW1];exact sesB rfl (Qb _ _))
 have hok1:Ok I w1:=by rw [←hW1];exact hw.alloc _
 have hb1:Below w.heap.size w w1:=by rw [←hW1];exact (Qb w.heap.size w).alloc (Qn _) _
 have HW1:=Qh hW1
 clear hW1
 go_enter Tryz.func94,Tryz.ntmps94
 go_wp2_with fail
 rw [HW1.out]
 clear HW1
 obtain ⟨c0,c1,c2,c3,c4,c5⟩:=HB1.out
 refine Xah (X:=Nat × Nat) (r39L w.heap.size s.num s.date s.prev s.stream p1 p2 p3 p4 sm p6 p7 v6 v10 v15 v21 v26 ao s.ents.length co) (QbC w1 27 18 101 [(0,S s.stream)] [] (fun w8=>Below w1.heap.size w1 w8)) (by kernel_rfl) (by kernel_rfl) ?_ ?_ ?_
 ·exact ⟨(0,0),QbC.start _ _⟩
 ·rintro x s' a' w' i hsz hcl ha hC hi
  obtain ⟨hun,oi,hoi,hall⟩:=mem_ready.1 hi
  rcases i with _|_|_|_|_|_|_|_|_|_|_|_|_|_|_|_|_|_|_|_|_|_|_|_|_|_|_|_|i
  rotate_left 28
  ·simp at hoi
  all_goals
   have hoj:=hoi
   simp at hoi
   subst hoi
   simp [Region.binds] at hall
  ·have e1:a'.tmps[1]?.getD undef= .pointer (some ⟨w.heap.size,0,none⟩):=Xbh ha (by simp)
   have hl:s'.getD 27 false=false:=Xae hcl [26,21,15,10,6,2,1,0] (by kernel_rfl) (by rfl) hun
   refine wpOp_step hoj (fun K' hK=> ?_)
   rw [if_pos (by rfl)]
   unfold Oper.wp
   simp [go_sem,e1,Oper.upon]
   exact hK _ _ ⟨x,Xad (d:=some 7) (v:= .pointer (some ⟨w.heap.size,0,none⟩)) Xac ha rfl hun,hC.step hl (Qb _ _) (by decide) (by decide) (by decide)⟩
  ·have e7:a'.tmps[7]?.getD undef= .pointer (some ⟨w.heap.size,0,none⟩):=Xaq (i:=0) Xac ha rfl (by first|simpa using hall|simpa using hall.1) (by simp)
   have hl:s'.getD 27 false=false:=Xae hcl [26,21,15,10,6,2,1] (by kernel_rfl) (by rfl) hun
   have cq:=Xaa (hC.bel hl) c0
   refine wpOp_step hoj (fun K' hK=> ?_)
   rw [if_pos (by rfl)]
   unfold Oper.wp
   simp [go_sem,e7,cq,Oper.upon]
   exact hK _ _ ⟨x,Xad (d:=some 8) (v:= .int .i64 s.num) Xac ha rfl hun,hC.step hl (Qb _ _) (by decide) (by decide) (by decide)⟩
  ·have e8:a'.tmps[8]?.getD undef= .int .i64 s.num:=Xaq (i:=1) Xac ha rfl (by first|simpa using hall|simpa using hall.1) (by simp)
   have hl:s'.getD 27 false=false:=Xae hcl [26,21,15,10,6,2] (by kernel_rfl) (by rfl) hun
   refine wpOp_step hoj (fun K' hK=> ?_)
   rw [if_pos (by rfl)]
   unfold Oper.wp
   simp [go_sem,e8,Oper.upon]
   refine (H1.out w').mono ?_
   rintro r4 w4 ⟨rfl,hb4⟩
   exact hK _ _ ⟨x,Xad (d:=some 9) (v:=S p1) Xac ha rfl hun,hC.step hl hb4 (by decide) (by decide) (by decide)⟩
  ·have e1:a'.tmps[1]?.getD undef= .pointer (some ⟨w.heap.size,0,none⟩):=Xbh ha (by simp)
   have hl:s'.getD 27 false=false:=Xae hcl [26,21,15,10,6,5,4,3] (by kernel_rfl) (by rfl) hun
   refine wpOp_step hoj (fun K' hK=> ?_)
   rw [if_pos (by rfl)]
   unfold Oper.wp
   simp [go_sem,e1,Oper.upon]
   exact hK _ _ ⟨x,Xad (d:=some 10) (v:= .pointer (some ⟨w.heap.size,1,none⟩)) Xac ha rfl hun,hC.step hl (Qb _ _) (by decide) (by decide) (by decide)⟩
  ·have e10:a'.tmps[10]?.getD undef= .pointer (some ⟨w.heap.size,1,none⟩):=Xaq (i:=3) Xac ha rfl (by first|simpa using hall|simpa using hall.1) (by simp)
   have hl:s'.getD 27 false=false:=Xae hcl [26,21,15,10,6,5,4] (by kernel_rfl) (by rfl) hun
   have cq:=Xaa (hC.bel hl) c1
   refine wpOp_step hoj (fun K' hK=> ?_)
   rw [if_pos (by rfl)]
   unfold Oper.wp
   simp [go_sem,e10,cq,Oper.upon]
   exact hK _ _ ⟨x,Xad (d:=some 11) (v:= .int .i64 s.date) Xac ha rfl hun,hC.step hl (Qb _ _) (by decide) (by decide) (by decide)⟩
  ·have e11:a'.tmps[11]?.getD undef= .int .i64 s.date:=Xaq (i:=4) Xac ha rfl (by first|simpa using hall|simpa using hall.1) (by simp)
   have hl:s'.getD 27 false=false:=Xae hcl [26,21,15,10,6,5] (by kernel_rfl) (by rfl) hun
   refine wpOp_step hoj (fun K' hK=> ?_)
   rw [if_pos (by rfl)]
   unfold Oper.wp
   simp [go_sem,e11,Oper.upon]
   refine (H2.out w').mono ?_
   rintro r4 w4 ⟨rfl,hb4⟩
   exact hK _ _ ⟨x,Xad (d:=some 12) (v:=S p2) Xac ha rfl hun,hC.step hl hb4 (by decide) (by decide) (by decide)⟩
  ·have e9:a'.tmps[9]?.getD undef=S p1:=Xaq (i:=2) Xac ha rfl (by simpa using hall.1) (by simp)
   have e12:a'.tmps[12]?.getD undef=S p2:=Xaq (i:=5) Xac ha rfl (by first|simpa using hall.2|simpa using hall.2.1) (by simp)
   have hl:s'.getD 27 false=false:=Xae hcl [26,21,15,10,6] (by kernel_rfl) (by rfl) hun
   refine wpOp_step hoj (fun K' hK=> ?_)
   rw [if_pos (by rfl)]
   unfold Oper.wp
   simp [go_sem,e9,e12,d6,hv6,Oper.upon]
   exact hK _ _ ⟨x,Xad (d:=some 13) (v:=S v6) Xac ha rfl hun,hC.step hl (Qb _ _) (by decide) (by decide) (by decide)⟩
  ·have e1:a'.tmps[1]?.getD undef= .pointer (some ⟨w.heap.size,0,none⟩):=Xbh ha (by simp)
   have hl:s'.getD 27 false=false:=Xae hcl [26,21,15,10,9,8,7] (by kernel_rfl) (by rfl) hun
   refine wpOp_step hoj (fun K' hK=> ?_)
   rw [if_pos (by rfl)]
   unfold Oper.wp
   simp [go_sem,e1,Oper.upon]
   exact hK _ _ ⟨x,Xad (d:=some 14) (v:= .pointer (some ⟨w.heap.size,2,none⟩)) Xac ha rfl hun,hC.step hl (Qb _ _) (by decide) (by decide) (by decide)⟩
  ·have e14:a'.tmps[14]?.getD undef= .pointer (some ⟨w.heap.size,2,none⟩):=Xaq (i:=7) Xac ha rfl (by first|simpa using hall|simpa using hall.1) (by simp)
   have hl:s'.getD 27 false=false:=Xae hcl [26,21,15,10,9,8] (by kernel_rfl) (by rfl) hun
   have cq:=Xaa (hC.bel hl) c2
   refine wpOp_step hoj (fun K' hK=> ?_)
   rw [if_pos (by rfl)]
   unfold Oper.wp
   simp [go_sem,e14,cq,Oper.upon]
   exact hK _ _ ⟨x,Xad (d:=some 15) (v:=S s.prev) Xac ha rfl hun,hC.step hl (Qb _ _) (by decide) (by decide) (by decide)⟩
  ·have e15:a'.tmps[15]?.getD undef=S s.prev:=Xaq (i:=8) Xac ha rfl (by first|simpa using hall|simpa using hall.1) (by simp)
   have hl:s'.getD 27 false=false:=Xae hcl [26,21,15,10,9] (by kernel_rfl) (by rfl) hun
   refine wpOp_step hoj (fun K' hK=> ?_)
   rw [if_pos (by rfl)]
   unfold Oper.wp
   simp [go_sem,e15,Oper.upon]
   refine (H3.out w').mono ?_
   rintro r4 w4 ⟨rfl,hb4⟩
   exact hK _ _ ⟨x,Xad (d:=some 16) (v:=S p3) Xac ha rfl hun,hC.step hl hb4 (by decide) (by decide) (by decide)⟩
  ·have e13:a'.tmps[13]?.getD undef=S v6:=Xaq (i:=6) Xac ha rfl (by simpa using hall.1) (by simp)
   have e16:a'.tmps[16]?.getD undef=S p3:=Xaq (i:=9) Xac ha rfl (by first|simpa using hall.2|simpa using hall.2.1) (by simp)
   have hl:s'.getD 27 false=false:=Xae hcl [26,21,15,10] (by kernel_rfl) (by rfl) hun
   refine wpOp_step hoj (fun K' hK=> ?_)
   rw [if_pos (by rfl)]
   unfold Oper.wp
   simp [go_sem,e13,e16,d10,hv10,Oper.upon]
   exact hK _ _ ⟨x,Xad (d:=some 17) (v:=S v10) Xac ha rfl hun,hC.step hl (Qb _ _) (by decide) (by decide) (by decide)⟩
  ·have e1:a'.tmps[1]?.getD undef= .pointer (some ⟨w.heap.size,0,none⟩):=Xbh ha (by simp)
   have hl:s'.getD 27 false=false:=Xae hcl [26,21,15,14,13,12,11] (by kernel_rfl) (by rfl) hun
   refine wpOp_step hoj (fun K' hK=> ?_)
   rw [if_pos (by rfl)]
   unfold Oper.wp
   simp [go_sem,e1,Oper.upon]
   exact hK _ _ ⟨x,Xad (d:=some 18) (v:= .pointer (some ⟨w.heap.size,4,none⟩)) Xac ha rfl hun,hC.step hl (Qb _ _) (by decide) (by decide) (by decide)⟩
  ·have e18:a'.tmps[18]?.getD undef= .pointer (some ⟨w.heap.size,4,none⟩):=Xaq (i:=11) Xac ha rfl (by first|simpa using hall|simpa using hall.1) (by simp)
   have hl:s'.getD 27 false=false:=Xae hcl [26,21,15,14,13,12] (by kernel_rfl) (by rfl) hun
   have cq:=Xaa (hC.bel hl) c4
   refine wpOp_step hoj (fun K' hK=> ?_)
   rw [if_pos (by rfl)]
   unfold Oper.wp
   simp [go_sem,e18,cq,Oper.upon]
   exact hK _ _ ⟨x,Xad (d:=some 19) (v:=S s.stream) Xac ha rfl hun,hC.step hl (Qb _ _) (by decide) (by decide) (by decide)⟩
  ·have e19:a'.tmps[19]?.getD undef=S s.stream:=Xaq (i:=12) Xac ha rfl (by first|simpa using hall|simpa using hall.1) (by simp)
   have hl:s'.getD 27 false=false:=Xae hcl [26,21,15,14,13] (by kernel_rfl) (by rfl) hun
   refine wpOp_step hoj (fun K' hK=> ?_)
   rw [if_pos (by rfl)]
   unfold Oper.wp
   simp [go_sem,e19,Oper.upon]
   exact hK _ _ ⟨x,Xad (d:=some 20) (v:= .int .i64 (s.stream.length:Int)) Xac ha rfl hun,hC.step hl (Qb _ _) (by decide) (by decide) (by decide)⟩
  ·have e20:a'.tmps[20]?.getD undef= .int .i64 (s.stream.length:Int):=Xaq (i:=13) Xac ha rfl (by first|simpa using hall|simpa using hall.1) (by simp)
   have hl:s'.getD 27 false=false:=Xae hcl [26,21,15,14] (by kernel_rfl) (by rfl) hun
   refine wpOp_step hoj (fun K' hK=> ?_)
   rw [if_pos (by rfl)]
   unfold Oper.wp
   simp [go_sem,e20,Oper.upon]
   refine (H4.out w').mono ?_
   rintro r4 w4 ⟨rfl,hb4⟩
   exact hK _ _ ⟨x,Xad (d:=some 21) (v:=S p4) Xac ha rfl hun,hC.step hl hb4 (by decide) (by decide) (by decide)⟩
  ·have e17:a'.tmps[17]?.getD undef=S v10:=Xaq (i:=10) Xac ha rfl (by simpa using hall.1) (by simp)
   have e21:a'.tmps[21]?.getD undef=S p4:=Xaq (i:=14) Xac ha rfl (by first|simpa using hall.2|simpa using hall.2.1) (by simp)
   have hl:s'.getD 27 false=false:=Xae hcl [26,21,15] (by kernel_rfl) (by rfl) hun
   refine wpOp_step hoj (fun K' hK=> ?_)
   rw [if_pos (by rfl)]
   unfold Oper.wp
   simp [go_sem,e17,e21,d15,hv15,Oper.upon]
   exact hK _ _ ⟨x,Xad (d:=some 22) (v:=S v15) Xac ha rfl hun,hC.step hl (Qb _ _) (by decide) (by decide) (by decide)⟩
  ·have e1:a'.tmps[1]?.getD undef= .pointer (some ⟨w.heap.size,0,none⟩):=Xbh ha (by simp)
   have hl:s'.getD 27 false=false:=Xae hcl [26,21,20,19,18,17,16] (by kernel_rfl) (by rfl) hun
   refine wpOp_step hoj (fun K' hK=> ?_)
   rw [if_pos (by rfl)]
   unfold Oper.wp
   simp [go_sem,e1,Oper.upon]
   exact hK _ _ ⟨x,Xad (d:=some 23) (v:= .pointer (some ⟨w.heap.size,4,none⟩)) Xac ha rfl hun,hC.step hl (Qb _ _) (by decide) (by decide) (by decide)⟩
  ·have e23:a'.tmps[23]?.getD undef= .pointer (some ⟨w.heap.size,4,none⟩):=Xaq (i:=16) Xac ha rfl (by first|simpa using hall|simpa using hall.1) (by simp)
   have hl:s'.getD 27 false=false:=Xae hcl [26,21,20,19,18,17] (by kernel_rfl) (by rfl) hun
   have cq:=Xaa (hC.bel hl) c4
   refine wpOp_step hoj (fun K' hK=> ?_)
   rw [if_pos (by rfl)]
   unfold Oper.wp
   simp [go_sem,e23,cq,Oper.upon]
   exact hK _ _ ⟨x,Xad (d:=some 24) (v:=S s.stream) Xac ha rfl hun,hC.step hl (Qb _ _) (by decide) (by decide) (by decide)⟩
  ·have e24:a'.tmps[24]?.getD undef=S s.stream:=Xaq (i:=17) Xac ha rfl (by first|simpa using hall|simpa using hall.1) (by simp)
   have hl:s'.getD 27 false=false:=Xae hcl [26,21,20,19,18] (by kernel_rfl) (by rfl) hun
   have ha:=ha.trans (Xna (L:=r39L w.heap.size s.num s.date s.prev s.stream p1 p2 p3 p4 sm p6 p7 v6 v10 v15 v21 v26 ao s.ents.length co x) (M:=r39L w.heap.size s.num s.date s.prev s.stream p1 p2 p3 p4 sm p6 p7 v6 v10 v15 v21 v26 ao s.ents.length co (w'.heap.size,x.2)) 18 rfl (fun j hne=>by
    rcases j with _|_|_|_|_|_|_|_|_|_|_|_|_|_|_|_|_|_|_|j<;>first|rfl|(exact absurd rfl hne)|simp) hun)
   refine wpOp_step hoj (fun K' hK=> ?_)
   rw [if_pos (by rfl)]
   unfold Oper.wp
   simp [go_sem,e24,Oper.upon]
   refine hK _ _ ⟨(w'.heap.size,x.2),Xad (d:=some 25) (v:= .slice (some ⟨w'.heap.size,0,none⟩) 1 1) Xac ha rfl hun,hC.at1 hl ((Qb _ _).alloc (Qn _) _) (by decide) (by decide) (fun p hp=> ?_)⟩
   simp at hp
   subst hp
   simp
  ·have e25:a'.tmps[25]?.getD undef= .slice (some ⟨x.1,0,none⟩) 1 1:=Xaq (i:=18) Xac ha rfl (by first|simpa using hall|simpa using hall.1) (by simp)
   have hl:s'.getD 27 false=false:=Xae hcl [26,21,20,19] (by kernel_rfl) (by rfl) hun
   have hcx:=hC.f1 (by first|simpa using hall|simpa using hall.1) hl _ (List.mem_singleton.2 rfl)
   refine wpOp_step hoj (fun K' hK=> ?_)
   rw [if_pos (by rfl)]
   unfold Oper.wp
   simp [go_sem,e25,Oper.upon]
   refine (H5.out x.1 w' hcx).mono ?_
   rintro r4 w4 ⟨rfl,hb4⟩
   exact hK _ _ ⟨x,Xad (d:=some 26) (v:=S sm) Xac ha rfl hun,hC.step hl hb4 (by decide) (by decide) (by decide)⟩
  ·have e26:a'.tmps[26]?.getD undef=S sm:=Xaq (i:=19) Xac ha rfl (by first|simpa using hall|simpa using hall.1) (by simp)
   have hl:s'.getD 27 false=false:=Xae hcl [26,21,20] (by kernel_rfl) (by rfl) hun
   refine wpOp_step hoj (fun K' hK=> ?_)
   rw [if_pos (by rfl)]
   unfold Oper.wp
   simp [go_sem,e26,Oper.upon]
   refine (H6.out w').mono ?_
   rintro r4 w4 ⟨rfl,hb4⟩
   exact hK _ _ ⟨x,Xad (d:=some 27) (v:=S p6) Xac ha rfl hun,hC.step hl hb4 (by decide) (by decide) (by decide)⟩
  ·have e22:a'.tmps[22]?.getD undef=S v15:=Xaq (i:=15) Xac ha rfl (by simpa using hall.1) (by simp)
   have e27:a'.tmps[27]?.getD undef=S p6:=Xaq (i:=20) Xac ha rfl (by first|simpa using hall.2|simpa using hall.2.1) (by simp)
   have hl:s'.getD 27 false=false:=Xae hcl [26,21] (by kernel_rfl) (by rfl) hun
   refine wpOp_step hoj (fun K' hK=> ?_)
   rw [if_pos (by rfl)]
   unfold Oper.wp
   simp [go_sem,e22,e27,d21,hv21,Oper.upon]
   exact hK _ _ ⟨x,Xad (d:=some 28) (v:=S v21) Xac ha rfl hun,hC.step hl (Qb _ _) (by decide) (by decide) (by decide)⟩
  ·have e1:a'.tmps[1]?.getD undef= .pointer (some ⟨w.heap.size,0,none⟩):=Xbh ha (by simp)
   have hl:s'.getD 27 false=false:=Xae hcl [26,25,24,23,22] (by kernel_rfl) (by rfl) hun
   refine wpOp_step hoj (fun K' hK=> ?_)
   rw [if_pos (by rfl)]
   unfold Oper.wp
   simp [go_sem,e1,Oper.upon]
   exact hK _ _ ⟨x,Xad (d:=some 29) (v:= .pointer (some ⟨w.heap.size,3,none⟩)) Xac ha rfl hun,hC.step hl (Qb _ _) (by decide) (by decide) (by decide)⟩
  ·have e29:a'.tmps[29]?.getD undef= .pointer (some ⟨w.heap.size,3,none⟩):=Xaq (i:=22) Xac ha rfl (by first|simpa using hall|simpa using hall.1) (by simp)
   have hl:s'.getD 27 false=false:=Xae hcl [26,25,24,23] (by kernel_rfl) (by rfl) hun
   have cq:=Xaa (hC.bel hl) c3
   refine wpOp_step hoj (fun K' hK=> ?_)
   rw [if_pos (by rfl)]
   unfold Oper.wp
   simp [go_sem,e29,cq,Oper.upon]
   exact hK _ _ ⟨x,Xad (d:=some 30) (v:= .slice ao s.ents.length co) Xac ha rfl hun,hC.step hl (Qb _ _) (by decide) (by decide) (by decide)⟩
  ·have e30:a'.tmps[30]?.getD undef= .slice ao s.ents.length co:=Xaq (i:=23) Xac ha rfl (by first|simpa using hall|simpa using hall.1) (by simp)
   have hl:s'.getD 27 false=false:=Xae hcl [26,25,24] (by kernel_rfl) (by rfl) hun
   refine wpOp_step hoj (fun K' hK=> ?_)
   rw [if_pos (by rfl)]
   unfold Oper.wp
   simp [go_sem,e30,Oper.upon]
   exact hK _ _ ⟨x,Xad (d:=some 31) (v:= .int .i64 (s.ents.length:Int)) Xac ha rfl hun,hC.step hl (Qb _ _) (by decide) (by decide) (by decide)⟩
  ·have e31:a'.tmps[31]?.getD undef= .int .i64 (s.ents.length:Int):=Xaq (i:=24) Xac ha rfl (by first|simpa using hall|simpa using hall.1) (by simp)
   have hl:s'.getD 27 false=false:=Xae hcl [26,25] (by kernel_rfl) (by rfl) hun
   refine wpOp_step hoj (fun K' hK=> ?_)
   rw [if_pos (by rfl)]
   unfold Oper.wp
   simp [go_sem,e31,Oper.upon]
   refine (H7.out w').mono ?_
   rintro r4 w4 ⟨rfl,hb4⟩
   exact hK _ _ ⟨x,Xad (d:=some 32) (v:=S p7) Xac ha rfl hun,hC.step hl hb4 (by decide) (by decide) (by decide)⟩
  ·have e28:a'.tmps[28]?.getD undef=S v21:=Xaq (i:=21) Xac ha rfl (by simpa using hall.1) (by simp)
   have e32:a'.tmps[32]?.getD undef=S p7:=Xaq (i:=25) Xac ha rfl (by first|simpa using hall.2|simpa using hall.2.1) (by simp)
   have hl:s'.getD 27 false=false:=Xae hcl [26] (by kernel_rfl) (by rfl) hun
   refine wpOp_step hoj (fun K' hK=> ?_)
   rw [if_pos (by rfl)]
   unfold Oper.wp
   simp [go_sem,e28,e32,d26,hv26,Oper.upon]
   exact hK _ _ ⟨x,Xad (d:=some 33) (v:=S v26) Xac ha rfl hun,hC.step hl (Qb _ _) (by decide) (by decide) (by decide)⟩
  ·have e33:a'.tmps[33]?.getD undef=S v26:=Xaq (i:=26) Xac ha rfl (by first|simpa using hall|simpa using hall.1) (by simp)
   have hl:s'.getD 27 false=false:=Xao hun
   refine wpOp_step hoj (fun K' hK=> ?_)
   rw [if_pos (by rfl)]
   unfold Oper.wp
   simp [go_sem,e33,Oper.upon]
   exact hK _ _ ⟨x,Xad (d:=some 3) (v:=S v26) Xac ha rfl hun,QbC.end' hun (hC.bel hl)⟩
 ·rintro x s' a' w8 hup ha hC
  have hb8:=hC.fin (hup 27 (by decide))
  rw [Xa1 _ _ _ _ (fun i hi=>by rw [Nat.zero_add];exact hup i (by simpa using hi))] at ha
  subst ha
  simp only [fillAll,Act.put]
  have HB8:=Qh (HB1.out.thru hb8)
  have hb8':=hb1.trans (hb8.mono hb1.size)
  have hok8:Ok I w8:=hok1.below (Qn _) hb8
  clear hC hup hb8 d6 d10 d15 d21 d26 hv6 hv10 hv15 hv21 hv26 H1 H2 H3 H4 H5 H6 H7 c0 c1 c2 c3 c4 c5 HB1 hok1 hb1
  go_wp2_with fail
  go_loopw [3,4] (fun s3 s4 wr=> ∃k:Nat,k≤s.ents.length∧s4= .int .i64 k∧s3=S (sesK s k)∧SesB wr w.heap.size s (.slice ao s.ents.length co)∧Below w.heap.size w wr) (fun _ i _=>s.ents.length-(intOf i).toNat)
  case atStart=>exact ⟨0,Nat.zero_le _,rfl,by rw [←Hv26.out],HB8.out,hb8'⟩
  case round=>
   clear HB8 hb8' hok8
   obtain ⟨k,hk,rfl,rfl,hBe,hb⟩:=hrel
   have HBe:=Qh hBe
   have hwr:Ok I wr:=hw.below (Qn _) hb
   have hkl:=Hkl.out k
   clear hBe
   obtain ⟨c0,c1,c2,c3,c4,c5⟩:=HBe.out
   by_cases hlt:k<s.ents.length
   ·obtain ⟨x,vxa,vxx,b,off,cap',hlx,hvv,⟨x0,x1,x2,x3,x4,x5,x6⟩,h1,h2⟩:=Xeu Hv.out hwr k hlt
    cases hvv
    obtain ⟨xa,xc,rfl,_,_,_⟩:=id h1
    obtain ⟨xx,xd,rfl,_,_,_⟩:=id h2
    have hmem:x∈s.ents:=by rw [←hlx];exact List.getElem_mem hlt
    have hx0:=Hg.out.err x hmem
    have hxe:=Hg.out.exts x hmem
    have Hst:=Qh (Xkd hlt hlx)
    have Hen:=Qh (fun w hw=>Xkj I x _ _ h1 h2 (Hg.out.wf x hmem) (Xeg hx0) hx0 (by omega) w hw)
    have hel:=Xjs (Xeg hx0) (show x.exts.length≤1000 by omega)
    clear hlx h1 h2 hmem hx0
    generalize encE x=y at Hst Hen hel
    generalize sesK s k=u at Hst hkl ⊢
    go_wp2_with fail
    refine (Hen.out _ hwr).mono ?_
    rintro r w4 ⟨rfl,hb4⟩
    have HB4:=Qh (HBe.out.thru hb4)
    have hb4':=hb.trans (hb4.mono hb.size)
    clear hb4 HBe c0 c1 c2 c3 c4 c5 x0 x1 x2 x3 x4 x5 x6 Hen
    go_wp2
    go_roundw
    case rel=>exact ⟨k+1,by omega,by go_num,(by rw [Hst.out]),HB4.out,hb4'⟩
    case measure=>simp [intOf];omega
   ·have Hn:=Qh (Xnm s (k:=k) (by omega))
    rw [Hn.out] at hkl ⊢
    obtain ⟨u,hu⟩:∃u,sesText s=u:=⟨_,rfl⟩
    rw [hu] at hkl ⊢
    have Hu:=Qh (show T=sumP u by rw [←HT.out,hu])
    clear hu Hn
    have H6:=Qh (Xfp wr.heap.size 0 1 u (by omega) (wr.alloc (.cells #[S u] 9)) (by simp))
    go_wp2_with fail
    refine H6.out.mono ?_
    rintro e6 w6 ⟨rfl,hb6⟩
    go_wp2
    go_ret
    rw [Hu.out]
    exact ⟨rfl,(hb.alloc hb.size _).trans (hb6.mono (by have:=hb.size;simp;omega))⟩
end Go.Proofs.YtjdednajelommaaGreatDoor
namespace Go.Proofs.YtjdednajelommaaGreatDoor
def meaning (x y:Ent):Bool:=decide (x.kind=y.kind)&&decide (x.attrs=y.attrs)&&decide (x.target=y.target)&&decide (x.size=y.size)&&decide (x.digest=y.digest)
def diffM:List Ent→List Ent→List Bytes
 | [],[]=> []
 |x::a,[]=>x.path::diffM a []
 | [],y::b=>y.path::diffM [] b
 |x::a,y::b=>if ltE x y then x.path::diffM a (y::b) else if ltE y x then y.path::diffM (x::a) b else if meaning x y then diffM a b else x.path::diffM a b
termination_by a b=>a.length+b.length
def SrtP (l:List Bytes):Prop:=l.Pairwise fun p q=>ltP (els p) (els q)=true
def DiffAt (a b:List Ent) (p:Bytes):Prop:=(∃x∈a,x.path=p∧ ∀y∈b,y.path=p→meaning x y=false)∨(∃y∈b,y.path=p∧ ∀x∈a,x.path≠p)
end Go.Proofs.YtjdednajelommaaGreatDoor
namespace Go.Proofs.YtjdednajelommaaGreatDoor
theorem Xqa {s:Stt} {e:Ent} {d:Int} (h:(stpP s e d).2=0):applyT s.tree e=((applyT s.tree e).1,0)∧(stpP s e d).1.tree=opT s.tree e∧entErr e=0:=by
 unfold stpP at*
 split at h
 ·contradiction
 ·rename_i h1
  have ha:=Xex (t:=s.tree) (e:=e) (by omega)
  obtain ⟨hp,hx⟩:=applyT_iff.1 ha
  split at h
  ·contradiction
  ·rename_i h2
   split at h
   ·contradiction
   ·rename_i h3
    rw [if_neg h1,if_neg h2,if_neg h3]
    exact ⟨ha,hx,hp.ent⟩
def lastE (i:Option Ent) (l:List Ver):Option Ent:=l.foldl (fun _ v=>if v.e.kind=4 then none else some v.e) i
def AllOk (d:Int):Stt→List Ent→Prop
 |_,[]=>True
 |s,e::es=>(stpP s e d).2=0∧AllOk d (stpP s e d).1 es
def AllSes:Stt→List Ses→Prop
 |_,[]=>True
 |s,x::xs=>AllOk x.date s x.ents∧AllSes (runS s x.date x.ents) xs
structure SesIn (i:Nat) (prev:Bytes) (date:Int) (x:Ses):Prop where
 dig:(dirDig x).2=0
 num:x.num=i+1
 date:date≤x.date
 prev:x.prev=prev
end Go.Proofs.YtjdednajelommaaGreatDoor
