/-
  Walks and laws that the claim's theorem uses: texts BmV SwC SwD CkO CkP CkC CkA CkB CkD CkE SnP SnQ SnR SnT ShC CaA CaB CaC AlP CaD CtA Mat FeA CtB RfD CtC, joined; comments out. Conditions: as each theorem says.
-/
import Derived.Test.YtkipnpjagcfcpaaGreatDoorC06
import Derived.Laws.OwnMore
import Derived.Test.YtkipnpjagcfcpaaGreatDoorProg
import Derived.Shelf.SlSorted.Search
import Derived.Maps.Own
import Derived.Maps.OwnOps
import Derived.Maps.OwnSet
import Derived.Maps.Views
import Derived.RangeFuncNested
import Derived.RangeFuncLeaves
import Derived.Shelf.Abstract
import Derived.OwnWalkIn
import Derived.TacticsInMore
import Derived.LoopNIn
import Derived.LoopIn
import Derived.Maps.OwnIn
set_option linter.all false
namespace Go.Proofs.YtkipnpjagcfcpaaGreatDoor
open Go.RowKit
structure DM (w:World) (B:Nat) (l:List Int) (X:World):Prop where
 below:Below w.heap.size w X
 le:w.heap.size≤B
 lt:B<X.heap.size
 row_:X.heap[B]? =some (.cells (row l) 192 (0,0))
theorem DM.pass {w X X':World} {B:Nat} {l:List Int} (h:DM w B l X) (hb:Below X.heap.size X X'):DM w B l X':=
 ⟨h.below.trans (hb.mono h.below.size),h.le,Nat.lt_of_lt_of_le h.lt hb.size,(hb.block _ h.lt).trans h.row_⟩
theorem DM.set {w X:World} {B:Nat} {l l':List Int} (h:DM w B l X):DM w B l' (X.setRow B (row l')):=
 ⟨below_setRow h.below h.le _,h.le,by simpa using h.lt,setRow_heap _ _ _ _ _ _ h.row_⟩
def DgR (w:World) (B:Nat) (s:Bytes) (v4 v5:Value) (X:World):Prop:=
 (∃i:Nat,i≤lastAt s∧64*i≤s.length∧v4= .int .i64 (64*(i:Int))∧v5= .bool false∧DM w B (hAt s i) X)∨(v4= .int .i64 (s.length:Int)∧v5= .bool true∧DM w B (sumWords s) X)
def bOf:Value→Nat
 | .bool true=>0
 |_=>1
theorem Xs2 (G:List Int) (hG:G.length=8) (q r:Nat) (hq:q<8) (hr:r<4):(outTo G 8).take (4*q+r+1)=(outTo G 8).take (4*q+r)++ [(wordBytes (G.getD q 0)).getD r 0]:=by
 obtain ⟨a,b,c,d,e,f,g,h,rfl⟩:=Xmi hG
 rcases (show q=0∨q=1∨q=2∨q=3∨q=4∨q=5∨q=6∨q=7 by omega) with rfl|rfl|rfl|rfl|rfl|rfl|rfl|rfl<;>
  rcases (show r=0∨r=1∨r=2∨r=3 by omega) with rfl|rfl|rfl|rfl<;>rfl
theorem Xqj (G:List Int) (hG:G.length=8):(outTo G 8).length=32:=by
 obtain ⟨a,b,c,d,e,f,g,h,rfl⟩:=Xmi hG
 rfl
set_option maxRecDepth 100000 in
set_option maxHeartbeats 2000000 in
theorem Xfp (s:Bytes) (hs:s.length≤140737488355328) (w:World):
 Calls Tryz.prog 86 #[S s] w fun e w'=>e= .returned (S (sumP s))∧Below w.heap.size w w':=by
 go_enter Tryz.func86,Tryz.ntmps86
 go_wp2_with fail
 refine (Xev _).mono ?_
 rintro e w1 ⟨rfl,hb1⟩
 rw [show row blkIV= #[.int .u32 1779033703,.int .u32 3144134277,.int .u32 1013904242,.int .u32 2773480762,.int .u32 1359893119,.int .u32 2600822924,.int .u32 528734635,.int .u32 1541459225] from rfl]
 go_wp2_with fail
 go_loopw [4,5] (fun s4 s5 wr=>DgR w w1.heap.size s s4 s5 wr) (fun c d _=>(s.length-(intOf c).toNat)+bOf d)
 case atStart=>exact .inl ⟨0,Nat.zero_le _,Nat.zero_le _,rfl,rfl,hb1.alloc hb1.size _,hb1.size,by simp,heap_alloc_new w1 (.cells (row sumStart) 192)⟩
 case round=>
  have hb1s:=hb1.size
  clear hb1
  rcases hrel with ⟨i,hi,hil,rfl,rfl,hm⟩|⟨rfl,rfl,hm⟩
  ·have Hm:=Qh hm
   clear hm
   by_cases hlt:i<lastAt s
   ·have hgt:64*i+64<s.length:=by unfold lastAt at hlt;omega
    have hi1:i+1≤lastAt s:=hlt
    clear hlt hi
    have hw1:IntKind.i64.wrap ((s.length:Int)-64*(i:Int))=(s.length:Int)-64*(i:Int):=IntWalk.i64_in _ (by omega)
    have hw2:IntKind.i64.wrap (64*(i:Int)+64)=64*(i:Int)+64:=IntWalk.i64_in _ (by omega)
    have hw3:(0:Int)≤64*(i:Int):=by omega
    have hw4:(64*(i:Int)+64).toNat=64*i+64:=by omega
    have hw5:(64*(i:Int)).toNat=64*i:=by omega
    have hw6:64*i+64-64*i=64:=by omega
    have hd1:decide (64<(s.length:Int)-64*(i:Int))=true:=by simp;omega
    have Hat:=Qh (show compressP (hAt s i) ((s.drop (64*i)).take 64) (64*(i:Int)+64) false=hAt s (i+1) by rw [hAt,show ((64*i+64:Nat):Int)=64*(i:Int)+64 by omega])
    have hbl:((s.drop (64*i)).take 64).length=64:=by simp;omega
    have hc:((64*(i:Int)+64)==(s.length:Int))=false:=by rw [beq_eq_false_iff_ne];omega
    have hwu:IntKind.u64.wrap (64*(i:Int)+64)=64*(i:Int)+64:=IntWalk.u64_in _ (by omega)
    go_wp2_with fail
    generalize (s.drop (64*i)).take 64=blk at Hat hbl ⊢
    have Hbl:=Qh hbl
    have hbl2:64≤blk.length:=by omega
    clear hbl
    go_loop [7] (fun s7=>s7=S blk) (fun _=>0)
    case atStart=>rfl
    case round=>
     obtain rfl:=hrel
     have hrow:=Hm.out.row_
     have hl8:=Xc0 s i
     generalize hAt s i=F at hrow hl8 Hat
     have hi8:(Tryz.prog.info? 192).map (·.size)=some (row F).size:=by rw [row_size,hl8];kernel_rfl
     have Hl8:=Qh hl8
     clear hl8
     go_wp2_with (refine wpList_load_row rfl 192 _ rfl w1.heap.size rfl 192 (row F) (0,0) _ hrow Tryz.underlying192 rfl hi8 ?_)
     refine (Xd9 F Hl8.out blk Hbl.out (64*(i:Int)+64) false _).mono ?_
     rintro e w3 ⟨rfl,hb3⟩
     have Hm3:=Qh (Hm.out.pass hb3)
     have hr3:w3.heap[w1.heap.size]? =some (.cells (row F) 192 (0,0)):=(hb3.block _ Hm.out.lt).trans hrow
     rw [Hat.out]
     have hl9:=Xc0 s (i+1)
     generalize hG:hAt s (i+1)=G at hl9 ⊢
     have HG:=Qh hG
     have hi9:(Tryz.prog.info? 192).map (·.size)=some (row G).size:=by rw [row_size,hl9];kernel_rfl
     have hz9:(row F).size=(row G).size:=by rw [row_size,row_size,Hl8.out,hl9]
     have ho9:(row G).all (·.oneCell')=true:=by simp [row,Value.oneCell']
     clear hb3 hrow hG hl9
     go_wp2_with (refine wpList_store_row rfl 192 _ _ rfl w1.heap.size (row G) rfl rfl 192 (row F) hr3 hi9 hz9 ho9 ?_)
     simp only [Act.put]
     go_roundw
     case rel=>exact .inl ⟨i+1,by omega,by omega,by go_num,rfl,by rw [HG.out];exact Hm3.out.set⟩
     case measure=>simp [intOf,bOf];omega
   ·have hie:i=lastAt s:=by omega
    have hle:s.length≤64*i+64:=by unfold lastAt at hie;omega
    obtain ⟨m,hm⟩:∃m,s.length-64*i=m:=⟨_,rfl⟩
    have hmi:(s.length:Int)-64*(i:Int)=(m:Int):=by omega
    have hm64:m≤64:=by omega
    have Hsum:=Qh (show compressP (hAt s i) (s.drop (64*i)++List.replicate (64-m) 0) (s.length:Int) true=sumWords s by rw [sumWords,←hie,hm])
    have hdr:(s.drop (64*i)).length=m:=by simp;omega
    have htk:(s.drop (64*i)).take m=s.drop (64*i):=List.take_of_length_le (by omega)
    have hw1:IntKind.i64.wrap ((s.length:Int)-64*(i:Int))=(m:Int):=by rw [hmi];exact IntWalk.i64_in _ (by omega)
    have hw2:IntKind.i64.wrap (64*(i:Int)+(m:Int))=(s.length:Int):=by rw [IntWalk.i64_in _ (by omega)];omega
    have hw3:(0:Int)≤64*(i:Int):=by omega
    have hw5:(64*(i:Int)).toNat=64*i:=by omega
    have hw7:s.length-64*i=m:=hm
    have hw8:64*(i:Int)≤(s.length:Int):=by omega
    have hwu:IntKind.u64.wrap (s.length:Int)=(s.length:Int):=IntWalk.u64_in _ (by omega)
    clear hm hie hlt hmi hdr
    go_wp2_with fail
    generalize hblk:s.drop (64*i)=blk at Hsum ⊢
    have hbl:blk.length=m:=by rw [←hblk];simp;omega
    clear hblk hw1 hw2 hw3 hw5 hw7 hw8
    have Hbl:=Qh hbl
    have hbl2:blk.length≤64:=by omega
    have hwc:((s.length:Int)==(s.length:Int))=true:=beq_self_eq_true _
    clear hbl
    go_loop [7] (fun s7=> ∃j:Nat,j+m≤64∧s7=S (blk++List.replicate j 0)) (fun v=>match v with| .string b=>64-b.size|_=>0)
    case atStart=>exact ⟨0,by omega,by simp⟩
    case round=>
     obtain ⟨j,hj,rfl⟩:=hrel
     have hjl:(blk++List.replicate j (0:UInt8)).length=m+j:=by rw [List.length_append,List.length_replicate,Hbl.out]
     have Hjs:=Qh (show blk++List.replicate j (0:UInt8)++ [0]=blk++List.replicate (j+1) 0 by rw [List.replicate_succ',List.append_assoc])
     have Hjl:=Qh hjl
     generalize hx:blk++List.replicate j (0:UInt8)=x at hjl Hjs Hjl ⊢
     have Hx:=Qh hx
     clear hx
     by_cases hlt64:j+m<64
     ·have hx64:x.length<64:=by omega
      clear hjl
      go_wp2
      go_round
      case rel=>exact ⟨j+1,by omega,by rw [Hjs.out]⟩
      case measure=>simp [ByteArray.size];omega
     ·have hx64:64≤x.length:=by omega
      have Hx64:=Qh (show x.length=64 by omega)
      have Hxe:=Qh (show x=blk++List.replicate (64-m) 0 by rw [←Hx.out,show 64-m=j by omega])
      clear hjl
      have hrow:=Hm.out.row_
      have hl8:=Xc0 s i
      generalize hAt s i=F at hrow hl8 Hsum
      have hi8:(Tryz.prog.info? 192).map (·.size)=some (row F).size:=by rw [row_size,hl8];kernel_rfl
      have Hl8:=Qh hl8
      clear hl8
      go_wp2_with (refine wpList_load_row rfl 192 _ rfl w1.heap.size rfl 192 (row F) (0,0) _ hrow Tryz.underlying192 rfl hi8 ?_)
      refine (Xd9 F Hl8.out x Hx64.out (s.length:Int) true _).mono ?_
      rintro e w3 ⟨rfl,hb3⟩
      have Hm3:=Qh (Hm.out.pass hb3)
      have hr3:w3.heap[w1.heap.size]? =some (.cells (row F) 192 (0,0)):=(hb3.block _ Hm.out.lt).trans hrow
      have hl9:(compressP F x (s.length:Int) true).length=8:=Xbd ..
      generalize hG:compressP F x (s.length:Int) true=G at hl9 ⊢
      have HG:=Qh (show sumWords s=G by rw [←Hsum.out,←Hxe.out,hG])
      have hi9:(Tryz.prog.info? 192).map (·.size)=some (row G).size:=by rw [row_size,hl9];kernel_rfl
      have hz9:(row F).size=(row G).size:=by rw [row_size,row_size,Hl8.out,hl9]
      have ho9:(row G).all (·.oneCell')=true:=by simp [row,Value.oneCell']
      clear hb3 hrow hG hl9
      go_wp2_with (refine wpList_store_row rfl 192 _ _ rfl w1.heap.size (row G) rfl rfl 192 (row F) hr3 hi9 hz9 ho9 ?_)
      simp only [Act.put]
      go_roundw
      case rel=>exact .inr ⟨rfl,rfl,by rw [HG.out];exact Hm3.out.set⟩
      case measure=>simp [intOf,bOf]
  ·have Hm:=Qh hm
   clear hm
   have hlG:(sumWords s).length=8:=Xbd ..
   obtain ⟨G,hG⟩:∃G,sumWords s=G:=⟨_,rfl⟩
   have HG:=Qh hG
   rw [hG] at hlG Hm
   clear hG
   go_wp2_with fail
   have hBs:=Hm.out.lt
   have hown0:OwnS tB 5 (fun _=>none) wr wr.heap.size (.slice none 0 0) ((outTo G 8).take 0):=OwnS.nil _ _ _ _ _
   have Hown0:=Qh hown0
   have hB0:w.heap.size≤wr.heap.size:=Hm.out.below.size
   clear hown0 hb1s
   generalize hB0e:wr.heap.size=B0 at hBs Hown0 hB0
   have HB0e:=Qh (Nat.le_of_eq hB0e.symm)
   clear hB0e
   have hol:=Xqj G hlG
   generalize w1.heap.size=B at hBs Hm ⊢
   go_loopw [8,9] (fun s8 s9 X=> ∃k:Nat,k≤32∧s9= .int .i64 k∧OwnS tB 5 (fun _=>none) X B0 s8 ((outTo G 8).take k)∧X.heap[B]? =some (.cells (row G) 192 (0,0))∧Below w.heap.size w X∧B0≤X.heap.size) (fun _ k _=>32-(intOf k).toNat)
   case atStart=>exact ⟨0,Nat.zero_le _,rfl,Hown0.out,Hm.out.row_,Hm.out.below,HB0e.out⟩
   case round=>
    clear Hown0 Hm HB0e
    obtain ⟨k,hk,rfl,hown,hrow,hb,hsz⟩:=hrel
    have Hown:=Qh hown
    by_cases hlt:k<32
    ·obtain ⟨q,r,hq,hr,hkq⟩:∃q r,q<8∧r<4∧k=4*q+r:=⟨k / 4,k%4,by omega,by omega,by omega⟩
     have hdiv:(k:Int) / 4=(q:Int):=by omega
     have hqi:(q:Int)<8:=by omega
     have Hst:=Qh (show (outTo G 8).take (k+1)=(outTo G 8).take k++ [(wordBytes (G.getD q 0)).getD r 0] by rw [hkq];exact Xs2 G hlG q r hq hr)
     have c0:=(cell_of_row wr _ q _ _ _ hrow).trans (Xa7 (l:=G) (by omega))
     have hlk:((outTo G 8).take k).length≤32:=by rw [List.length_take];omega
     have Hkq:=Qh hkq
     have Hrow:=Qh hrow
     clear hkq hown hrow hol
     generalize G.getD q 0=x0 at c0 Hst
     rcases (show r=0∨r=1∨r=2∨r=3 by omega) with rfl|rfl|rfl|rfl
     ·have hmod:(k:Int)%4=0:=by have:=Hkq.out;omega
      go_wp2_with (at_builtin;refine Xau (w0:=wr) Xgi rfl _ _ rfl _ _ _ rfl Hown.out (x0%256) [.int .u8 (x0%256)] _ rfl rfl (by omega) (by omega) hsz ?_)
      intro v5 w5 hown5 hg5
      have hb5:=Below.own hb hg5 Hown.out hB0 hsz
      have hr5:=(hg5.block B (by omega) (fun e=>Hown.out.ne_lt hBs e.symm)).trans Hrow.out
      have hs5:=hg5.size
      have Hown5:=Qh hown5
      have Hr5:=Qh hr5
      clear hown5 hr5 hg5 Hown Hrow
      go_wp2
      go_roundw
      case rel=>exact ⟨k+1,by omega,by go_num,by rw [Hst.out];exact Hown5.out,Hr5.out,hb5,by omega⟩
      case measure=>simp [intOf];omega
     ·have hmod:(k:Int)%4=1:=by have:=Hkq.out;omega
      go_wp2_with (at_builtin;refine Xau (w0:=wr) Xgi rfl _ _ rfl _ _ _ rfl Hown.out (x0 / 256%256) [.int .u8 (x0 / 256%256)] _ rfl rfl (by omega) (by omega) hsz ?_)
      intro v5 w5 hown5 hg5
      have hb5:=Below.own hb hg5 Hown.out hB0 hsz
      have hr5:=(hg5.block B (by omega) (fun e=>Hown.out.ne_lt hBs e.symm)).trans Hrow.out
      have hs5:=hg5.size
      have Hown5:=Qh hown5
      have Hr5:=Qh hr5
      clear hown5 hr5 hg5 Hown Hrow
      go_wp2
      go_roundw
      case rel=>exact ⟨k+1,by omega,by go_num,by rw [Hst.out];exact Hown5.out,Hr5.out,hb5,by omega⟩
      case measure=>simp [intOf];omega
     ·have hmod:(k:Int)%4=2:=by have:=Hkq.out;omega
      go_wp2_with (at_builtin;refine Xau (w0:=wr) Xgi rfl _ _ rfl _ _ _ rfl Hown.out (x0 / 65536%256) [.int .u8 (x0 / 65536%256)] _ rfl rfl (by omega) (by omega) hsz ?_)
      intro v5 w5 hown5 hg5
      have hb5:=Below.own hb hg5 Hown.out hB0 hsz
      have hr5:=(hg5.block B (by omega) (fun e=>Hown.out.ne_lt hBs e.symm)).trans Hrow.out
      have hs5:=hg5.size
      have Hown5:=Qh hown5
      have Hr5:=Qh hr5
      clear hown5 hr5 hg5 Hown Hrow
      go_wp2
      go_roundw
      case rel=>exact ⟨k+1,by omega,by go_num,by rw [Hst.out];exact Hown5.out,Hr5.out,hb5,by omega⟩
      case measure=>simp [intOf];omega
     ·have hmod:(k:Int)%4=3:=by have:=Hkq.out;omega
      go_wp2_with (at_builtin;refine Xau (w0:=wr) Xgi rfl _ _ rfl _ _ _ rfl Hown.out (x0 / 16777216%256) [.int .u8 (x0 / 16777216%256)] _ rfl rfl (by omega) (by omega) hsz ?_)
      intro v5 w5 hown5 hg5
      have hb5:=Below.own hb hg5 Hown.out hB0 hsz
      have hr5:=(hg5.block B (by omega) (fun e=>Hown.out.ne_lt hBs e.symm)).trans Hrow.out
      have hs5:=hg5.size
      have Hown5:=Qh hown5
      have Hr5:=Qh hr5
      clear hown5 hr5 hg5 Hown Hrow
      go_wp2
      go_roundw
      case rel=>exact ⟨k+1,by omega,by go_num,by rw [Hst.out];exact Hown5.out,Hr5.out,hb5,by omega⟩
      case measure=>simp [intOf];omega
    ·have hke:k=32:=by omega
     have hfull:(outTo G 8).take k=outTo G 8:=List.take_of_length_le (by omega)
     have hret:(outTo G 8).map (fun x=>UInt8.ofNat x.toNat)=sumP s:=by rw [sumP,HG.out]
     rw [hfull] at hown
     have hpos:0<(outTo G 8).length:=by omega
     have hcv:=Xjp (P:=Tryz.prog) Tryz.underlying69 Tryz.underlying5 Tryz.underlying9 wr hown hpos
     rw [hret] at hcv
     clear hown hpos hke hfull hret hrow Hown hol hlG
     go_wp2
     go_ret
     exact ⟨rfl,hb⟩
def sumPart (s:Bytes) (k:Nat):Bytes:=if k=0 then [] else s
set_option maxRecDepth 100000 in
set_option maxHeartbeats 4000000 in
theorem Xka (I:IH) (s:Ses) (ve:Value) (hve:RdS tEnt I ve s.ents) (hg:SesH s) (w:World) (hw:Ok I w):
 Calls Tryz.prog 143 #[sesV s ve] w fun r w'=>r= .returned (.int .i64 (sesErr s))∧Below w.heap.size w w':=by
 obtain ⟨ao,co,rfl,_,_,_⟩:=id hve
 have Hv:=Qh hve
 have Hg:=Qh hg
 have hn30:=hg.nents
 have hst:=hg.stream
 have hpv:=hg.prev
 have hsl:=hg.sl
 have z1:decide (14680064<s.stream.length)=false:=Qf (by omega)
 have z2:decide (400<s.ents.length)=false:=Qf (by omega)
 have hbad:fldErr s≠0→sesErr s=fldErr s:=fun h=>by rw [sesErr,if_pos h]
 have hgood:fldErr s=0→sesErr s=if entsErr s.ents≠0 then entsErr s.ents else if 2000<s.sl.length then 6 else 0:=fun h=>by
  rw [sesErr,if_neg (by omega),if_neg (by omega)]
 clear hve hg
 by_cases h1:s.num<1
 ·have d1:decide (s.num<1)=true:=Qt h1
  have Hn:=Qh (show sesErr s=2 by rw [hbad]<;>rw [fldErr,if_pos (.inl h1)];decide)
  clear h1 hbad hgood
  go_enter Tryz.func143,Tryz.ntmps143
  go_wp2
  go_ret
  exact ⟨Xag Hn.out.symm,(Qb w.heap.size w).alloc (Qn _) _⟩
 have d1:decide (s.num<1)=false:=Qf h1
 by_cases h2:255<s.num
 ·have d2:decide (255<s.num)=true:=Qt h2
  have Hn:=Qh (show sesErr s=2 by rw [hbad]<;>rw [fldErr,if_pos (.inr (.inl h2))];decide)
  clear h1 h2 hbad hgood
  go_enter Tryz.func143,Tryz.ntmps143
  go_wp2
  go_ret
  exact ⟨Xag Hn.out.symm,(Qb w.heap.size w).alloc (Qn _) _⟩
 have d2:decide (255<s.num)=false:=Qf h2
 by_cases h3:s.date<0
 ·have d3:decide (s.date<0)=true:=Qt h3
  have Hn:=Qh (show sesErr s=2 by rw [hbad]<;>rw [fldErr,if_pos (.inr (.inr (.inl h3)))];decide)
  clear h1 h2 h3 hbad hgood
  go_enter Tryz.func143,Tryz.ntmps143
  go_wp2
  go_ret
  exact ⟨Xag Hn.out.symm,(Qb w.heap.size w).alloc (Qn _) _⟩
 have d3:decide (s.date<0)=false:=Qf h3
 by_cases h4:1000000000<s.date
 ·have d4:decide (1000000000<s.date)=true:=Qt h4
  have Hn:=Qh (show sesErr s=2 by rw [hbad]<;>rw [fldErr,if_pos (.inr (.inr (.inr h4)))];decide)
  clear h1 h2 h3 h4 hbad hgood
  go_enter Tryz.func143,Tryz.ntmps143
  go_wp2
  go_ret
  exact ⟨Xag Hn.out.symm,(Qb w.heap.size w).alloc (Qn _) _⟩
 have d4:decide (1000000000<s.date)=false:=Qf h4
 have hf:fldErr s=if s.prev≠ []∧s.prev.length≠32 then 1 else 0:=by
  rw [fldErr,if_neg]
  rintro (h|h|h|h)<;>contradiction
 clear h1 h2 h3 h4
 by_cases h5:s.prev= []
 ·have Hse:=Qh (hgood (by rw [hf,if_neg fun q=>q.1 h5]))
  have hl0:s.prev.length=0:=by rw [h5];rfl
  have d5:((s.prev.length:Int) != 0)=false:=by rw [hl0];rfl
  have d5':((s.prev.length:Int)==0)=true:=by rw [hl0];rfl
  clear h5 hf hbad hgood hl0
  go_enter Tryz.func143,Tryz.ntmps143
  go_wp2_with fail
  have HB0:=Qh (sesB (W:=w) (s:=s) (ve:= .slice ao s.ents.length co) (t:=62) rfl (Qb _ _))
  have hb0:=(Qb w.heap.size w).alloc (Qn _) (.cells #[.int .i64 s.num,.int .i64 s.date,S s.prev,.slice ao s.ents.length co,S s.stream,S s.sl] 62)
  go_loopw [3] (fun s3 wr=> ∃k:Nat,k≤s.ents.length∧s3= .int .i64 k∧entsErr (s.ents.drop k)=entsErr s.ents∧SesB wr w.heap.size s (.slice ao s.ents.length co)∧Below w.heap.size w wr) (fun i _=>s.ents.length-(intOf i).toNat)
  case atStart=>exact ⟨0,Nat.zero_le _,rfl,rfl,HB0.out,hb0⟩
  case round=>
   clear HB0 hb0
   obtain ⟨k,hk,rfl,hes,hBe,hb⟩:=hrel
   have HBe:=Qh hBe
   have Hes:=Qh hes
   have hwr:Ok I wr:=hw.below (Qn _) hb
   clear hBe hes
   obtain ⟨c0,c1,c2,c3,c4,c5⟩:=HBe.out
   by_cases hlt:k<s.ents.length
   ·obtain ⟨x,vxa,vxx,b,off,cap',hlx,hvv,⟨x0,x1,x2,x3,x4,x5,x6⟩,h1,h2⟩:=Xe3 Hv.out hwr k hlt
    cases hvv
    obtain ⟨xa,xc,rfl,_,_,_⟩:=id h1
    obtain ⟨xx,xd,rfl,_,_,_⟩:=id h2
    have hmem:x∈s.ents:=by rw [←hlx];exact List.getElem_mem hlt
    have hxw:=Hg.out.wf x hmem
    have hxe:=Hg.out.exts x hmem
    have Hse1:=Qh (Xds hlt hlx)
    have Hen:=Qh (fun w hw=>Xc6 I x _ _ h1 h2 hxw w hw)
    rw [Xd3 (by omega)] at Hen
    clear hlx h1 h2 hmem hxw
    go_wp2_with fail
    refine (Hen.out _ hwr).mono ?_
    rintro e1 w4 ⟨rfl,hb4⟩
    have HB4:=Qh (HBe.out.thru hb4)
    have hb4':=hb.trans (hb4.mono hb.size)
    clear hb4 HBe c0 c1 c2 c3 c4 c5 x0 x1 x2 x3 x4 x5 x6 Hen
    by_cases hx0:entErr x=0
    ·have Hes2:=Qh (show entsErr (s.ents.drop (k+1))=entsErr s.ents by rw [←Hes.out,Hse1.out,if_neg (by omega)])
     rw [hx0]
     clear hx0
     go_wp2
     go_roundw
     case rel=>exact ⟨k+1,by omega,by go_num,Hes2.out,HB4.out,hb4'⟩
     case measure=>simp [intOf];omega
    ·have Hn:=Qh (show sesErr s=entErr x by
      have h:=Hes.out
      rw [Hse1.out,if_pos hx0] at h
      rw [Hse.out,if_pos (by rw [←h];exact hx0),←h])
     obtain ⟨q,hq⟩:∃q,entErr x=q:=⟨_,rfl⟩
     rw [hq] at hx0 Hn ⊢
     have hn0:(q != 0)=true:=by simpa using hx0
     clear hx0 hq
     go_wp2
     go_ret
     exact ⟨Xag Hn.out.symm,hb4'⟩
   ·have Hse2:=Qh (show sesErr s=if 2000<s.sl.length then 6 else 0 by
     have h:=Hes.out
     rw [List.drop_of_length_le (by omega)] at h
     rw [Hse.out,if_neg]
     rw [←h];simp [entsErr])
    by_cases h2:2000<s.sl.length
    ·have dI:decide ((2000:Int)<(s.sl.length:Int))=true:=Qt (by omega)
     have Hn1:=Qh (show sesErr s=6 by rw [Hse2.out,if_pos h2])
     go_wp2
     go_ret
     exact ⟨Xag Hn1.out.symm,hb⟩
    ·have dI:decide ((2000:Int)<(s.sl.length:Int))=false:=Qf (by omega)
     have Hn1:=Qh (show sesErr s=0 by rw [Hse2.out,if_neg h2])
     go_wp2
     go_ret
     exact ⟨Xag Hn1.out.symm,hb⟩
 have d5:((s.prev.length:Int) != 0)=true:=by
  have:=List.length_pos_iff.2 h5
  simpa using (show (s.prev.length:Int)≠0 by omega)
 have d5':((s.prev.length:Int)==0)=false:=by
  have:=List.length_pos_iff.2 h5
  simpa using (show (s.prev.length:Int)≠0 by omega)
 by_cases h6:s.prev.length=32
 ·have d6:((s.prev.length:Int) != 32)=false:=by rw [h6];rfl
  have d7:((s.prev.length:Int)==32)=true:=by rw [h6];rfl
  have Hse:=Qh (hgood (by rw [hf,if_neg fun q=>q.2 h6]))
  clear h5 hf h6 hbad hgood
  go_enter Tryz.func143,Tryz.ntmps143
  go_wp2_with fail
  have HB0:=Qh (sesB (W:=w) (s:=s) (ve:= .slice ao s.ents.length co) (t:=62) rfl (Qb _ _))
  have hb0:=(Qb w.heap.size w).alloc (Qn _) (.cells #[.int .i64 s.num,.int .i64 s.date,S s.prev,.slice ao s.ents.length co,S s.stream,S s.sl] 62)
  go_loopw [3] (fun s3 wr=> ∃k:Nat,k≤s.ents.length∧s3= .int .i64 k∧entsErr (s.ents.drop k)=entsErr s.ents∧SesB wr w.heap.size s (.slice ao s.ents.length co)∧Below w.heap.size w wr) (fun i _=>s.ents.length-(intOf i).toNat)
  case atStart=>exact ⟨0,Nat.zero_le _,rfl,rfl,HB0.out,hb0⟩
  case round=>
   clear HB0 hb0
   obtain ⟨k,hk,rfl,hes,hBe,hb⟩:=hrel
   have HBe:=Qh hBe
   have Hes:=Qh hes
   have hwr:Ok I wr:=hw.below (Qn _) hb
   clear hBe hes
   obtain ⟨c0,c1,c2,c3,c4,c5⟩:=HBe.out
   by_cases hlt:k<s.ents.length
   ·obtain ⟨x,vxa,vxx,b,off,cap',hlx,hvv,⟨x0,x1,x2,x3,x4,x5,x6⟩,h1,h2⟩:=Xe3 Hv.out hwr k hlt
    cases hvv
    obtain ⟨xa,xc,rfl,_,_,_⟩:=id h1
    obtain ⟨xx,xd,rfl,_,_,_⟩:=id h2
    have hmem:x∈s.ents:=by rw [←hlx];exact List.getElem_mem hlt
    have hxw:=Hg.out.wf x hmem
    have hxe:=Hg.out.exts x hmem
    have Hse1:=Qh (Xds hlt hlx)
    have Hen:=Qh (fun w hw=>Xc6 I x _ _ h1 h2 hxw w hw)
    rw [Xd3 (by omega)] at Hen
    clear hlx h1 h2 hmem hxw
    go_wp2_with fail
    refine (Hen.out _ hwr).mono ?_
    rintro e1 w4 ⟨rfl,hb4⟩
    have HB4:=Qh (HBe.out.thru hb4)
    have hb4':=hb.trans (hb4.mono hb.size)
    clear hb4 HBe c0 c1 c2 c3 c4 c5 x0 x1 x2 x3 x4 x5 x6 Hen
    by_cases hx0:entErr x=0
    ·have Hes2:=Qh (show entsErr (s.ents.drop (k+1))=entsErr s.ents by rw [←Hes.out,Hse1.out,if_neg (by omega)])
     rw [hx0]
     clear hx0
     go_wp2
     go_roundw
     case rel=>exact ⟨k+1,by omega,by go_num,Hes2.out,HB4.out,hb4'⟩
     case measure=>simp [intOf];omega
    ·have Hn:=Qh (show sesErr s=entErr x by
      have h:=Hes.out
      rw [Hse1.out,if_pos hx0] at h
      rw [Hse.out,if_pos (by rw [←h];exact hx0),←h])
     obtain ⟨q,hq⟩:∃q,entErr x=q:=⟨_,rfl⟩
     rw [hq] at hx0 Hn ⊢
     have hn0:(q != 0)=true:=by simpa using hx0
     clear hx0 hq
     go_wp2
     go_ret
     exact ⟨Xag Hn.out.symm,hb4'⟩
   ·have Hse2:=Qh (show sesErr s=if 2000<s.sl.length then 6 else 0 by
     have h:=Hes.out
     rw [List.drop_of_length_le (by omega)] at h
     rw [Hse.out,if_neg]
     rw [←h];simp [entsErr])
    by_cases h2:2000<s.sl.length
    ·have dI:decide ((2000:Int)<(s.sl.length:Int))=true:=Qt (by omega)
     have Hn1:=Qh (show sesErr s=6 by rw [Hse2.out,if_pos h2])
     go_wp2
     go_ret
     exact ⟨Xag Hn1.out.symm,hb⟩
    ·have dI:decide ((2000:Int)<(s.sl.length:Int))=false:=Qf (by omega)
     have Hn1:=Qh (show sesErr s=0 by rw [Hse2.out,if_neg h2])
     go_wp2
     go_ret
     exact ⟨Xag Hn1.out.symm,hb⟩
 ·have d6:((s.prev.length:Int) != 32)=true:=by simpa using (show (s.prev.length:Int)≠32 by omega)
  have d7:((s.prev.length:Int)==32)=false:=by simpa using (show (s.prev.length:Int)≠32 by omega)
  have Hn:=Qh (show sesErr s=1 by rw [hbad]<;>rw [hf,if_pos ⟨h5,h6⟩];decide)
  clear h5 hf h6 hbad hgood
  go_enter Tryz.func143,Tryz.ntmps143
  go_wp2
  go_ret
  exact ⟨Xag Hn.out.symm,(Qb w.heap.size w).alloc (Qn _) _⟩
theorem Xfb {s:Ses} (hg:SesH s) (h0:sesErr s=0) (k:Nat):(sesK s k).length≤22000000:=
 Xgo hg (Xdi h0).1 fun e he=>Xd2 (Xdi h0).2.2.2.1 e (List.mem_of_mem_take he)
theorem Xgm (s:Ses):sesK s s.ents.length=sesText s:=Xf3 s (Qn _)
set_option maxRecDepth 100000 in
set_option maxHeartbeats 2000000 in
theorem Xet (I:IH) (s:Ses) (ve:Value) (hve:RdS tEnt I ve s.ents) (hg:SesH s) (h0:sesErr s=0) (w:World) (hw:Ok I w):
 Calls Tryz.prog 87 #[sesV s ve] w fun r w'=>r= .returned (S (sesText s))∧Below w.heap.size w w':=by
 obtain ⟨ao,co,rfl,_,_,_⟩:=id hve
 have Hv:=Qh hve
 have Hg:=Qh hg
 have hks:=Xhf (Xdi h0).1
 have Hok:=Qh (Xd2 (Xdi h0).2.2.2.1)
 have Hkl:=Qh (Xfb hg h0)
 have hn30:=hg.nents
 have hst:=hg.stream
 have hpv:=hg.prev
 have hm1:=Xbc (n:=s.num) (by omega) (by omega)
 have hm2:=Xbc (n:=s.date) (by omega) (by omega)
 have hm3:=Xaq s.prev (by omega)
 have hm4:=Xbg s.stream.length (by omega)
 have hsm:=Xb7 s.stream
 have hm5:=Xaq (sumP s.stream) (by omega)
 have hm6:=Xbg s.ents.length (by omega)
 have H1:=Qh (fun w=>Xfe s.num (by omega) (by omega) w)
 have H2:=Qh (fun w=>Xfe s.date (by omega) (by omega) w)
 have H3:=Qh (fun w=>Xa9 s.prev (by omega) w)
 have H4:=Qh (fun w=>Xb4 s.stream.length (by omega) w)
 have H5:=Qh (fun w=>Xfp s.stream (by omega) w)
 have H6:=Qh (fun w=>Xa9 (sumP s.stream) (by omega) w)
 have H7:=Qh (fun w=>Xb4 s.ents.length (by omega) w)
 have Hh:=Qh (show numP s.num++numP s.date++netP s.prev++(numP s.stream.length++netP (sumP s.stream)++numP s.ents.length)=sesK s 0 by
  rw [sesK,List.take_zero];simp [sesHead])
 have Hend:=Qh (Xgm s)
 clear hve hg h0 hks
 generalize numP s.num=p1 at hm1 H1 Hh
 generalize numP s.date=p2 at hm2 H2 Hh
 generalize netP s.prev=p3 at hm3 H3 Hh
 generalize numP (s.stream.length:Int)=p4 at hm4 H4 Hh
 generalize netP (sumP s.stream)=p6 at hm5 H6 Hh
 generalize sumP s.stream=sm at hsm hm5 H5 H6
 generalize numP (s.ents.length:Int)=p7 at hm6 H7 Hh
 have HB0:=Qh (sesB (W:=w) (s:=s) (ve:= .slice ao s.ents.length co) (t:=62) rfl (Qb _ _))
 have hb0:=(Qb w.heap.size w).alloc (Qn _) (.cells #[.int .i64 s.num,.int .i64 s.date,S s.prev,.slice ao s.ents.length co,S s.stream,S s.sl] 62)
 obtain ⟨c0,c1,c2,c3,c4,c5⟩:=HB0.out
 have e0:=cell_regrown c0
 have e1:=cell_regrown c1
 have e2:=cell_regrown c2
 have e3:=cell_regrown c3
 have e4:=cell_regrown c4
 clear c0 c1 c2 c3 c4 c5
 go_enter Tryz.func87,Tryz.ntmps87
 go_wp2_with fail
 refine wp_region_quiet_below (by kernel_rfl) (by kernel_rfl) ?_
 repeat (go_big_quiet_step ((with_reducible first|exact Calls.regrown_of (H1.out _)|exact Calls.regrown_of (H2.out _)|exact Calls.regrown_of (H3.out _)|exact Calls.regrown_of (H4.out _)|exact Calls.regrown_of (H5.out _)|exact Calls.regrown_of (H6.out _)|exact Calls.regrown_of (H7.out _))))
 refine wpQuiet_nil ?_
 intro w1 hwq
 have hb1:Below ((w.alloc (.cells #[.int .i64 s.num,.int .i64 s.date,S s.prev,.slice ao s.ents.length co,S s.stream,S s.sl] 62))).heap.size ((w.alloc (.cells #[.int .i64 s.num,.int .i64 s.date,S s.prev,.slice ao s.ents.length co,S s.stream,S s.sl] 62))) w1:=by
  obtain ⟨pq,rfl⟩:=hwq
  exact below_regrown _ _ _
 clear hwq
 have HB1:=Qh (HB0.out.thru hb1)
 have hb1':=hb0.trans (hb1.mono hb0.size)
 clear e0 e1 e2 e3 e4 hb1 HB0 hb0 H1 H2 H3 H4 H5 H6 H7
 go_wp2_with fail
 go_loopw [3,4] (fun s3 s4 wr=> ∃k:Nat,k≤s.ents.length∧s4= .int .i64 k∧s3=S (sesK s k)∧SesB wr w.heap.size s (.slice ao s.ents.length co)∧Below w.heap.size w wr) (fun _ i _=>s.ents.length-(intOf i).toNat)
 case atStart=>exact ⟨0,Nat.zero_le _,rfl,by rw [←Hh.out];simp,HB1.out,hb1'⟩
 case round=>
  clear HB1 hb1'
  obtain ⟨k,hk,rfl,rfl,hBe,hb⟩:=hrel
  have HBe:=Qh hBe
  have hwr:Ok I wr:=hw.below (Qn _) hb
  have hkl:=Hkl.out k
  clear hBe
  obtain ⟨c0,c1,c2,c3,c4,c5⟩:=HBe.out
  by_cases hlt:k<s.ents.length
  ·obtain ⟨x,vxa,vxx,b,off,cap',hlx,hvv,⟨x0,x1,x2,x3,x4,x5,x6⟩,h1,h2⟩:=Xe3 Hv.out hwr k hlt
   cases hvv
   obtain ⟨xa,xc,rfl,_,_,_⟩:=id h1
   obtain ⟨xx,xd,rfl,_,_,_⟩:=id h2
   have hmem:x∈s.ents:=by rw [←hlx];exact List.getElem_mem hlt
   have hx0:=Hok.out x hmem
   have hxe:=Hg.out.exts x hmem
   have Hst:=Qh (Xgn hlt hlx)
   have Hen:=Qh (fun w hw=>Xkc I x _ _ h1 h2 (Hg.out.wf x hmem) (Xca hx0) hx0 (by omega) w hw)
   have hel:=Xf8 (Xca hx0) (show x.exts.length≤1000 by omega)
   clear hlx h1 h2 hmem hx0
   generalize encE x=y at Hst Hen hel
   generalize sesK s k=u at Hst hkl ⊢
   go_wp2_with fail
   refine (Hen.out _ hwr).mono ?_
   rintro r w4 ⟨rfl,hb4⟩
   have HB4:=Qh (HBe.out.thru hb4)
   have hb4':=hb.trans (hb4.mono hb.size)
   clear hb4 HBe c0 c1 c2 c3 c4 c5 x0 x1 x2 x3 x4 x5 x6 Hen
   go_wp2
   go_roundw
   case rel=>exact ⟨k+1,by omega,by go_num,(by rw [Hst.out]),HB4.out,hb4'⟩
   case measure=>simp [intOf];omega
  ·have hke:k=s.ents.length:=by omega
   have Hn:=Qh (show sesK s k=sesText s by rw [hke];exact Hend.out)
   rw [Hn.out]
   go_wp2
   go_ret
   exact ⟨rfl,hb⟩
set_option maxRecDepth 100000 in
set_option maxHeartbeats 1000000 in
theorem Xi4 (n:Nat) (hn:n≤1000000000000) (w:World):
 Calls Tryz.prog 144 #[.int .i64 n] w fun r w'=> ∃d:Bytes,d.length=8∧r= .returned (S d)∧Below w.heap.size w w':=by
 go_enter Tryz.func144,Tryz.ntmps144
 go_wp2_with fail
 go_loop [0,3,4] (fun s0 s3 s4=> ∃(i m:Nat) (d:Bytes),i≤8∧m≤1000000000000∧s4= .int .i64 i∧s0= .int .i64 m∧s3=S d∧d.length=i) (fun _ _ i=>8-(intOf i).toNat)
 case atStart=>exact ⟨0,n,[],by omega,hn,rfl,rfl,rfl,rfl⟩
 case round=>
  obtain ⟨i,m,d,hi,hm,rfl,rfl,rfl,hd⟩:=hrel
  have Hd:=Qh hd
  have hd8:d.length≤8:=by omega
  clear hd
  by_cases hlt:i<8
  ·go_wp2
   go_round
   case rel=>exact ⟨i+1,m / 10,_,by omega,by omega,by go_num,by go_num,rfl,by have:=Hd.out;simp;omega⟩
   case measure=>simp [intOf];omega
  ·have hd':d.length=8:=by have:=Hd.out;omega
   have Hd2:=Qh hd'
   clear hd'
   go_wp2
   go_ret
   exact ⟨d,Hd2.out,rfl,Qb _ _⟩
set_option maxRecDepth 100000 in
set_option maxHeartbeats 2000000 in
theorem Xi5 (I:IH) (s:Ses) (ve:Value) (hve:RdS tEnt I ve s.ents) (hg:SesH s) (w:World) (hw:Ok I w):
 Calls Tryz.prog 85 #[sesV s ve] w fun r w'=> ∃t:Bytes,r= .returned (.tuple #[S t,.int .i64 (sesErr s)])∧Below w.heap.size w w':=by
 have Hck:=Qh (fun w hw=>Xka I s ve hve hg w hw)
 have Hsg:=Qh (fun h0 w hw=>Xet I s ve hve hg h0 w hw)
 have Hl:=Qh (fun h0=>by have:=Xfb hg h0 s.ents.length;rw [Xgm] at this;exact this)
 obtain ⟨ao,co,rfl,_,_,_⟩:=id hve
 have hsl:=hg.sl
 clear hve hg
 by_cases h0:sesErr s=0
 ·have Hs:=Qh (Hsg.out h0)
  have hl:=Hl.out h0
  rw [h0] at Hck ⊢
  generalize sesText s=u at Hs hl
  have Hst:=Qh (fun w=>Xa9 s.sl (by omega) w)
  have hnl:=Xaq s.sl (by omega)
  generalize netP s.sl=q at Hst hnl
  clear Hsg Hl h0
  go_enter Tryz.func85,Tryz.ntmps85
  go_wp2_with fail
  refine (Hck.out _ (hw.alloc _)).mono ?_
  rintro e1 w1 ⟨rfl,hb1⟩
  have HB1:=Qh (sesB (s:=s) rfl hb1)
  have hok1:Ok I w1:=(hw.alloc _).below (Qn _) hb1
  have hb1':=((Qb w.heap.size w).alloc (Qn _) (.cells #[.int .i64 s.num,.int .i64 s.date,S s.prev,.slice ao s.ents.length co,S s.stream,S s.sl] 62)).trans (hb1.mono (by simp))
  clear hb1 Hck
  obtain ⟨c0,c1,c2,c3,c4,c5⟩:=HB1.out
  go_wp2_with fail
  refine (Hs.out _ hok1).mono ?_
  rintro e2 w2 ⟨rfl,hb2⟩
  have HB2:=Qh (HB1.out.thru hb2)
  have hb2':=hb1'.trans (hb2.mono hb1'.size)
  clear hb2 Hs HB1 hb1' c0 c1 c2 c3 c4 c5
  obtain ⟨c0,c1,c2,c3,c4,c5⟩:=HB2.out
  go_wp2_with fail
  refine (Hst.out _).mono ?_
  rintro e3 w3 ⟨rfl,hb3⟩
  have hb3':=hb2'.trans (hb3.mono hb2'.size)
  clear hb3 Hst HB2 hb2' c0 c1 c2 c3 c4 c5
  have Hdg:=Qh (Xi4 (u++q).length (by simp;omega) w3)
  simp only [List.length_append] at Hdg
  go_wp2_with fail
  refine Hdg.out.mono ?_
  rintro e4 w4 ⟨d,hd,rfl,hb4⟩
  have hd8:d.length≤8:=by omega
  clear hd
  go_wp2
  go_ret2
  exact ⟨_,rfl,hb3'.trans (hb4.mono hb3'.size)⟩
 ·obtain ⟨q,hq⟩:∃q,sesErr s=q:=⟨_,rfl⟩
  rw [hq] at Hck h0 ⊢
  have hn0:(q != 0)=true:=by simpa using h0
  clear h0 hq Hsg Hl
  go_enter Tryz.func85,Tryz.ntmps85
  go_wp2_with fail
  refine (Hck.out _ (hw.alloc _)).mono ?_
  rintro e1 w1 ⟨rfl,hb1⟩
  have hb1':=((Qb w.heap.size w).alloc (Qn _) (.cells #[.int .i64 s.num,.int .i64 s.date,S s.prev,.slice ao s.ents.length co,S s.stream,S s.sl] 62)).trans (hb1.mono (by simp))
  go_wp2
  go_ret2
  exact ⟨[],rfl,hb1'⟩
set_option maxRecDepth 100000 in
set_option maxHeartbeats 1000000 in
theorem Xi6 (I:IH) (s:Ses) (ve:Value) (hve:RdS tEnt I ve s.ents) (hg:SesH s) (w:World) (hw:Ok I w):
 Calls Tryz.prog 43 #[sesV s ve] w fun r w'=>r= .returned (.tuple #[S (dirDig s).1,.int .i64 (dirDig s).2])∧Below w.heap.size w w':=by
 have Hen:=Qh (fun w hw=>Xi5 I s ve hve hg w hw)
 have Hsg:=Qh (fun h0 w hw=>Xet I s ve hve hg h0 w hw)
 have Hl:=Qh (fun h0=>by have:=Xfb hg h0 s.ents.length;rw [Xgm] at this;exact this)
 obtain ⟨ao,co,rfl,_,_,_⟩:=id hve
 clear hve hg
 by_cases h0:sesErr s=0
 ·have Hn:=Qh (show dirDig s=(sumP (sesText s),0) by rw [dirDig,if_neg (by omega)])
  have Hs:=Qh (Hsg.out h0)
  have hl:=Hl.out h0
  rw [h0] at Hen
  rw [Hn.out]
  generalize sesText s=u at Hs hl ⊢
  have Hdg:=Qh (fun w=>Xfp u (by omega) w)
  clear Hsg Hl h0 Hn
  go_enter Tryz.func43,Tryz.ntmps43
  go_wp2_with fail
  refine (Hen.out _ (hw.alloc _)).mono ?_
  rintro e1 w1 ⟨t,rfl,hb1⟩
  have HB1:=Qh (sesB (s:=s) rfl hb1)
  have hok1:Ok I w1:=(hw.alloc _).below (Qn _) hb1
  have hb1':=((Qb w.heap.size w).alloc (Qn _) (.cells #[.int .i64 s.num,.int .i64 s.date,S s.prev,.slice ao s.ents.length co,S s.stream,S s.sl] 62)).trans (hb1.mono (by simp))
  clear hb1 Hen
  obtain ⟨c0,c1,c2,c3,c4,c5⟩:=HB1.out
  go_wp2_with fail
  refine (Hs.out _ hok1).mono ?_
  rintro e2 w2 ⟨rfl,hb2⟩
  have hb2':=hb1'.trans (hb2.mono hb1'.size)
  go_wp2_with fail
  refine (Hdg.out _).mono ?_
  rintro e3 w3 ⟨rfl,hb3⟩
  go_wp2
  go_ret2
  exact ⟨rfl,hb2'.trans (hb3.mono hb2'.size)⟩
 ·have Hn:=Qh (show dirDig s=([],sesErr s) by rw [dirDig,if_pos h0])
  rw [Hn.out]
  obtain ⟨q,hq⟩:∃q,sesErr s=q:=⟨_,rfl⟩
  rw [hq] at Hen h0 ⊢
  have hn0:(q != 0)=true:=by simpa using h0
  clear h0 hq Hsg Hl Hn
  go_enter Tryz.func43,Tryz.ntmps43
  go_wp2_with fail
  refine (Hen.out _ (hw.alloc _)).mono ?_
  rintro e1 w1 ⟨t,rfl,hb1⟩
  have hb1':=((Qb w.heap.size w).alloc (Qn _) (.cells #[.int .i64 s.num,.int .i64 s.date,S s.prev,.slice ao s.ents.length co,S s.stream,S s.sl] 62)).trans (hb1.mono (by simp))
  go_wp2
  go_ret2
  exact ⟨rfl,hb1'⟩
end Go.Proofs.YtkipnpjagcfcpaaGreatDoor
namespace Go.Proofs.YtkipnpjagcfcpaaGreatDoor
def ckH (h:Nat) (b:UInt8):Nat:=(2*h+40503*(b.toNat+1))%65536
def firstG:Bytes→Nat→Nat→Nat
 | [],i,_=>i
 |b::r,i,h=>if i+1=96∨(16≤i+1∧ckH h b<2048) then i+1 else firstG r (i+1) (ckH h b)
def firstP (s:Bytes):Nat:=firstG s 0 0
theorem Xhg:∀(r:Bytes) (i h:Nat),i≤firstG r i h∧firstG r i h≤i+r.length
 | [],i,h=>⟨Qn _,by simp [firstG]⟩
 |b::r,i,h=>by
  have:=Xhg r (i+1) (ckH h b)
  rw [firstG,List.length_cons]
  split<;>omega
theorem Xor (b:UInt8) (r:Bytes) (i h:Nat):i<firstG (b::r) i h:=by
 have:=(Xhg r (i+1) (ckH h b)).1
 rw [firstG]
 split<;>omega
theorem Xdz {s:Bytes} (h:s≠ []):0<firstP s:=by
 cases s with
 |nil=>exact absurd rfl h
 |cons b r=>exact Xor b r 0 0
theorem Xk4 (s:Bytes):firstP s≤s.length:=by have:=(Xhg s 0 0).2;unfold firstP;omega
def chunksF:Nat→Bytes→List Bytes
 |0,_=> []
 |n+1,s=>if s= [] then [] else s.take (firstP s)::chunksF n (s.drop (firstP s))
def chunksP (s:Bytes):List Bytes:=chunksF s.length s
theorem Xin:∀(n m:Nat) (s:Bytes),s.length≤n→s.length≤m→chunksF n s=chunksF m s
 |0,m,s,h,_=>by
  have:s= []:=List.eq_nil_of_length_eq_zero (by omega)
  subst this
  cases m<;>simp [chunksF]
 |n+1,0,s,_,h=>by
  have:s= []:=List.eq_nil_of_length_eq_zero (by omega)
  subst this
  simp [chunksF]
 |n+1,m+1,s,h1,h2=>by
  rw [chunksF,chunksF]
  by_cases h0:s= []
  ·rw [if_pos h0,if_pos h0]
  ·have hp:=Xdz h0
   rw [if_neg h0,if_neg h0,Xin n m _ (by rw [List.length_drop];omega) (by rw [List.length_drop];omega)]
theorem Xo4:chunksP []= []:=rfl
theorem Xhn {s:Bytes} (h:s≠ []):chunksP s=s.take (firstP s)::chunksP (s.drop (firstP s)):=by
 have hp:=Xdz h
 have hl:0<s.length:=List.length_pos_iff.2 h
 obtain ⟨n,hn⟩:∃n,s.length=n+1:=⟨s.length-1,by omega⟩
 unfold chunksP
 rw [hn,chunksF,if_neg h,Xin n (s.drop (firstP s)).length _ (by rw [List.length_drop];omega) (Qn _)]
theorem Xcr:∀(n:Nat) (s:Bytes),s.length≤n→(chunksP s).flatten=s∧(∀c∈chunksP s,c≠ [])∧(chunksP s).length≤s.length
 |0,s,h=>by
  have:s= []:=List.eq_nil_of_length_eq_zero (by omega)
  subst this
  exact ⟨rfl,fun _ h=>(by cases h),Qn _⟩
 |n+1,s,h=>by
  by_cases h0:s= []
  ·subst h0
   exact ⟨rfl,fun _ h=>(by cases h),Qn _⟩
  ·have hp:=Xdz h0
   have hf:=Xk4 s
   obtain ⟨h1,h2,h3⟩:=Xcr n (s.drop (firstP s)) (by rw [List.length_drop];omega)
   rw [List.length_drop] at h3
   rw [Xhn h0]
   refine ⟨by rw [List.flatten_cons,h1,List.take_append_drop],fun c hc=> ?_,by rw [List.length_cons];omega⟩
   rcases List.mem_cons.1 hc with rfl|hc
   ·intro e
    have:=congrArg List.length e
    rw [List.length_take] at this
    simp at this
    rcases this with h|h
    ·omega
    ·exact h0 h
   ·exact h2 c hc
theorem Xho (s:Bytes):(chunksP s).flatten=s:=(Xcr _ s (Qn _)).1
theorem Xro {s:Bytes}:∀c∈chunksP s,c≠ []:=(Xcr _ s (Qn _)).2.1
theorem Xfm (s:Bytes):(chunksP s).length≤s.length:=(Xcr _ s (Qn _)).2.2
structure Sg where
 n:Int
 d:Bytes
def zerosP:Bytes→Nat
 | []=>0
 |b::r=>if b=0 then zerosP r+1 else 0
theorem Xga:∀s:Bytes,zerosP s≤s.length
 | []=>Qn _
 |b::r=>by
  have:=Xga r
  rw [zerosP,List.length_cons]
  split<;>omega
def dataG (d:Bytes):List Sg:=if d= [] then [] else [⟨0,d⟩]
def segG:Nat→Bytes→Bytes→List Sg
 |0,acc,_=>dataG acc
 |f+1,acc,r=>
  if r= [] then dataG acc
  else if 32≤zerosP r then dataG acc++⟨(zerosP r:Nat),[]⟩::segG f [] (r.drop (zerosP r))
  else segG f (acc++r.take (max (zerosP r) 1)) (r.drop (max (zerosP r) 1))
def segR (acc r:Bytes):List Sg:=segG r.length acc r
def segsP (s:Bytes):List Sg:=segR [] s
theorem Xiy:∀(n m:Nat) (acc r:Bytes),r.length≤n→r.length≤m→segG n acc r=segG m acc r
 |0,m,acc,r,h,_=>by
  have:r= []:=List.eq_nil_of_length_eq_zero (by omega)
  subst this
  cases m<;>simp [segG]
 |n+1,0,acc,r,_,h=>by
  have:r= []:=List.eq_nil_of_length_eq_zero (by omega)
  subst this
  simp [segG]
 |n+1,m+1,acc,r,h1,h2=>by
  rw [segG,segG]
  by_cases h0:r= []
  ·rw [if_pos h0,if_pos h0]
  ·have hl:0<r.length:=List.length_pos_iff.2 h0
   rw [if_neg h0,if_neg h0]
   by_cases h3:32≤zerosP r
   ·rw [if_pos h3,if_pos h3,Xiy n m _ _ (by rw [List.length_drop];omega) (by rw [List.length_drop];omega)]
   ·rw [if_neg h3,if_neg h3,Xiy n m _ _ (by rw [List.length_drop];omega) (by rw [List.length_drop];omega)]
theorem Xup (acc:Bytes):segR acc []=dataG acc:=rfl
theorem Xsn {acc r:Bytes} (h0:r≠ []) (h:32≤zerosP r):segR acc r=dataG acc++⟨(zerosP r:Nat),[]⟩::segR [] (r.drop (zerosP r)):=by
 have hl:0<r.length:=List.length_pos_iff.2 h0
 obtain ⟨n,hn⟩:∃n,r.length=n+1:=⟨r.length-1,by omega⟩
 unfold segR
 rw [hn,segG,if_neg h0,if_pos h,Xiy n _ _ _ (by rw [List.length_drop];omega) (Qn _)]
theorem Xso {acc r:Bytes} (h0:r≠ []) (h:¬32≤zerosP r):segR acc r=segR (acc++r.take (max (zerosP r) 1)) (r.drop (max (zerosP r) 1)):=by
 have hl:0<r.length:=List.length_pos_iff.2 h0
 obtain ⟨n,hn⟩:∃n,r.length=n+1:=⟨r.length-1,by omega⟩
 unfold segR
 rw [hn,segG,if_neg h0,if_neg h,Xiy n _ _ _ (by rw [List.length_drop];omega) (Qn _)]
def segSz (l:List Sg):Nat:=(l.map fun g=>g.n.toNat+g.d.length).sum
theorem Xdu (g:Sg) (l:List Sg):segSz (g::l)=g.n.toNat+g.d.length+segSz l:=by simp [segSz]
theorem Xj6 (a b:List Sg):segSz (a++b)=segSz a+segSz b:=by simp [segSz]
theorem Xej (d:Bytes):segSz (dataG d)=d.length∧ ∀g∈dataG d,(g.n=0∧g.d≠ [])∨(0<g.n∧g.d= []):=by
 unfold dataG
 split
 ·rename_i h;subst h;exact ⟨rfl,fun _ h=>(by cases h)⟩
 ·rename_i h
  refine ⟨by simp [segSz],fun g hg=> ?_⟩
  simp at hg
  subst hg
  exact .inl ⟨rfl,h⟩
theorem Xdv:∀(f:Nat) (acc r:Bytes),r.length≤f→segSz (segG f acc r)=acc.length+r.length∧ ∀g∈segG f acc r,(g.n=0∧g.d≠ [])∨(0<g.n∧g.d= [])
 |0,acc,r,h=>by
  have:r= []:=List.eq_nil_of_length_eq_zero (by omega)
  subst this
  exact Xej acc
 |f+1,acc,r,h=>by
  rw [segG]
  by_cases h0:r= []
  ·subst h0;rw [if_pos rfl];exact Xej acc
  ·have hl:0<r.length:=List.length_pos_iff.2 h0
   have hz:=Xga r
   rw [if_neg h0]
   by_cases h3:32≤zerosP r
   ·rw [if_pos h3]
    obtain ⟨h1,h2⟩:=Xdv f [] (r.drop (zerosP r)) (by rw [List.length_drop];omega)
    obtain ⟨d1,d2⟩:=Xej acc
    rw [List.length_drop] at h1
    refine ⟨by rw [Xj6,Xdu,h1,d1];simp;omega,fun g hg=> ?_⟩
    rcases List.mem_append.1 hg with hg|hg
    ·exact d2 g hg
    ·rcases List.mem_cons.1 hg with rfl|hg
     ·exact .inr ⟨by show (0:Int)<(zerosP r:Nat);omega,rfl⟩
     ·exact h2 g hg
   ·rw [if_neg h3]
    obtain ⟨h1,h2⟩:=Xdv f (acc++r.take (max (zerosP r) 1)) (r.drop (max (zerosP r) 1)) (by rw [List.length_drop];omega)
    refine ⟨by rw [h1];simp;omega,h2⟩
theorem Xen (s:Bytes):segSz (segsP s)=s.length:=by
 have:=(Xdv s.length [] s (Qn _)).1
 simpa [segsP,segR] using this
theorem Xgq {s:Bytes}:∀g∈segsP s,(g.n=0∧g.d≠ [])∨(0<g.n∧g.d= []):=(Xdv s.length [] s (Qn _)).2
theorem Xgp:∀ {l:List Sg},(∀g∈l,(g.n=0∧g.d≠ [])∨(0<g.n∧g.d= []))→l.length≤segSz l
 | [],_=>Qn _
 |g::l,h=>by
  have h1:=h g (List.mem_cons_self ..)
  have h2:=Xgp (l:=l) fun x hx=>h x (List.mem_cons_of_mem _ hx)
  rw [Xdu,List.length_cons]
  rcases h1 with ⟨_,h1⟩|⟨h1,_⟩
  ·have:=List.length_pos_iff.2 h1;omega
  ·omega
theorem Xm5 (s:Bytes):(segsP s).length≤s.length:=by rw [←Xen s];exact Xgp Xgq
end Go.Proofs.YtkipnpjagcfcpaaGreatDoor
namespace Go.Proofs.YtkipnpjagcfcpaaGreatDoor
structure Ck where
 d:Bytes
 x:Xt
structure Sto where
 cks:List Ck
 ses:Int
 str:Bytes
def findX:List Ck→Bytes→Option Xt
 | [],_=>none
 |c::l,d=>if c.d=d then some c.x else findX l d
def addX (l:List Xt) (x:Xt):List Xt:=
 match l.getLast? with
 |none=> [x]
 |some y=>if x.s≠0∧y.s=x.s∧y.o+y.n=x.o then l.dropLast++ [⟨y.s,y.o,y.n+x.n⟩] else l++ [x]
def newX (S:Sto) (c:Bytes):Xt:=⟨S.ses,(S.str.length:Nat),(c.length:Nat)⟩
def putC (S:Sto) (c:Bytes):Sto × Xt:=
 match findX S.cks (sumP c) with
 |some x=>(S,x)
 |none=>(⟨S.cks++ [⟨sumP c,newX S c⟩],S.ses,S.str++c⟩,newX S c)
def putO (p:Sto × List Xt) (c:Bytes):Sto × List Xt:=((putC p.1 c).1,addX p.2 (putC p.1 c).2)
def putG (p:Sto × List Xt) (g:Sg):Sto × List Xt:=if g.d= [] then (p.1,addX p.2 ⟨0,0,g.n⟩) else (chunksP g.d).foldl putO p
def putP (S:Sto) (c:Bytes):Sto × List Xt × Int:=
 if S.ses<1∨255<S.ses then (S,[],1) else if 65536<c.length then (S,[],6)
 else (((segsP c).foldl putG (S,[])).1,((segsP c).foldl putG (S,[])).2,0)
def beginP (S:Sto) (n:Int):Sto × Int:=if n<1∨255<n then (S,2) else if n≤S.ses then (S,14) else (⟨S.cks,n,[]⟩,0)
def gBad (st:List Bytes) (x:Xt):Bool:=decide (x.n<0) || decide (x.o<0) || decide (x.s<0) || decide ((st.length:Int)<x.s) || (x.s==0&&x.o != 0)
def strAtP (st:List Bytes) (x:Xt):Bytes:=st.getD (x.s-1).toNat []
def getG (st:List Bytes):List Xt→Bytes→Bytes × Int
 | [],out=>(out,0)
 |x::r,out=>
  if gBad st x=true then ([],2)
  else if 0<x.s∧(((strAtP st x).length:Int)<x.o∨((strAtP st x).length:Int)-x.o<x.n) then ([],2)
  else if 65536-(out.length:Int)<x.n then ([],6)
  else getG st r (out++if x.s=0 then List.replicate x.n.toNat 0 else ((strAtP st x).drop x.o.toNat).take x.n.toNat)
def getP (st:List Bytes) (l:List Xt):Bytes × Int:=getG st l []
theorem Xn1 (l:List Xt) (x:Xt):(addX l x).length≤l.length+1∧0<(addX l x).length:=by
 unfold addX
 split
 ·simp
 ·rename_i y hy
  have hl:0<l.length:=by cases l with
   |nil=>simp at hy
   |cons a l=>simp
  split<;>simp<;>omega
end Go.Proofs.YtkipnpjagcfcpaaGreatDoor
namespace Go.Proofs.YtkipnpjagcfcpaaGreatDoor
open Go.RowKit
theorem Xbk {α:Type} {T:Ty α} {I:IH} {P:Program} {ts te:TypeId} {bytes:Nat} (hE:ElemOk P ts te T bytes) {w0:World} {ops:Array Oper} {rest:List Oper} {o:Oper} {a:Act} {Q:Exit→Act→World→Prop} (hgd:o.guard=none) (s x:Operand)
 (ho:o.op= .call { callee:= .builtin .append,args:= #[s,x],argTypes:= #[ts,ts] }) (B:Nat) (v:Value) (l:List α) (hs:a.eval s=v) (hown:OwnS T te I w0 B v l)
 (y:α) (cs:List Value) (tb:TypeId) (hx:a.eval x= .slice (some ⟨w0.heap.size,0,none⟩) 1 1) (hy:T.rd I cs y) (hbig:(l.length+1)*bytes≤140737488355328) (hl:l.length+1≤9223372036854775807) (hB:B≤w0.heap.size)
 (h:∀v' w',OwnS T te I w' B v' (l++ [y])→w0.grownBy w' v.ownBlock→(∀g,v'.ownBlock=some g→v.ownBlock=some g∨w0.heap.size≤g)→wpList P ops Q rest (a.put o.dst v') w'):wpList P ops Q (o::rest) a (w0.alloc (.cells cs.toArray tb)):=by
 obtain ⟨i,z,h1,h2,h3,h4,h5,h6,h7⟩:=hE
 obtain ⟨xs,k1,k2⟩:=hown
 refine wpList_append_own_at (w0.alloc (.cells cs.toArray tb)) hgd s x ts ho B te i z T.size bytes h1 h2 h3 h4 h5 h6 h7 v l.length xs hs (k1.alloc _) ⟨w0.heap.size,0,none⟩ 1 1 cs hx (by rw [T.len hy,Nat.one_mul])
  (fun j u hu=>by rw [Addr.add_lit,Nat.zero_add,World.cell?_alloc_new];simpa using hu) (T.one hy) (by unfold maxLen;omega) hbig (by simp;omega) (fun v' w' r1 r2 _ r4=>h v' w' ⟨xs++cs,by rw [List.length_append];exact r1,k2.append (LiesL.one hy)⟩ ?_ ?_)
 ·exact ⟨r2.os,r2.tape,r2.output,by have:=r2.size;simp at this;omega,fun k hk hne=>(r2.block k (by simp;omega) hne).trans (Below.heap_alloc _ _ _ hk)⟩
 ·intro g hg
  rcases r4 with r4|r4
  ·exact .inl (r4▸hg)
  ·rw [r4] at hg
   simp at hg
   exact .inr (by omega)
theorem Xb5 {w w':World} (hb:Below w.heap.size w w') (row:Option Nat):w.grownBy w' row:=⟨hb.os,hb.tape,hb.output,hb.size,fun k hk _=>hb.block k hk⟩
theorem Xco {w w1 w2:World} {row:Option Nat} (h1:w.grownBy w1 row) (h2:w1.grownBy w2 row):w.grownBy w2 row:=
 ⟨h2.os.trans h1.os,h2.tape.trans h1.tape,h2.output.trans h1.output,Nat.le_trans h1.size h2.size,fun k hk hne=>(h2.block k (Nat.lt_of_lt_of_le hk h1.size) hne).trans (h1.block k hk hne)⟩
def XB (n:Int) (x:Xt):Prop:=0≤x.s∧x.s≤255∧0≤x.o∧x.o≤1099511627776∧0≤x.n∧x.n≤n
theorem XB.mono {n m:Int} {x:Xt} (h:XB n x) (hm:n≤m):XB m x:=by unfold XB at *;omega
section
variable {I:IH} {W:World} {B:Nat} {v:Value} {l:List Xt}
theorem Xne (h:OwnS tXt 110 I W B v l) (h0:0<l.length):∃g cap y,v= .slice (some ⟨g,0,none⟩) l.length cap∧l.length≤cap∧l.getLast? =some y∧B≤g∧g<W.heap.size∧
 W.cell? ⟨g,(l.length-1)*3,none⟩=some (.int .i64 y.s)∧W.cell? ⟨g,(l.length-1)*3+1,none⟩=some (.int .i64 y.o)∧W.cell? ⟨g,(l.length-1)*3+2,none⟩=some (.int .i64 y.n)∧(∀j,W.frozen? ⟨g,j,none⟩=false):=by
 obtain ⟨xs,h1,h2⟩:=h
 rcases h1.2 with ⟨_,hz⟩|⟨g,cap,cur,hv,hb,hg,hnc,_⟩
 ·omega
 subst hv
 have hlt:g<W.heap.size:=(Array.getElem?_eq_some_iff.1 hg).1
 have hxl:xs.length=l.length*3:=h2.1
 have hi:l.length-1<l.length:=by omega
 obtain ⟨cs,k1,k2⟩:=h2.2 (l.length-1) hi
 have k1':cs= [.int .i64 (l[l.length-1]).s,.int .i64 (l[l.length-1]).o,.int .i64 (l[l.length-1]).n]:=k1
 subst k1'
 refine ⟨g,cap,l[l.length-1],rfl,hnc,by rw [List.getLast?_eq_getElem?,List.getElem?_eq_getElem hi],hb,hlt,?_,?_,?_,fun j=>h1.frozenAt j⟩
 ·rw [h1.cellAt _ (by show (l.length-1)*3<l.length*3;omega)];exact k2 0 _ rfl
 ·rw [h1.cellAt _ (by show (l.length-1)*3+1<l.length*3;omega)];exact k2 1 _ rfl
 ·rw [h1.cellAt _ (by show (l.length-1)*3+2<l.length*3;omega)];exact k2 2 _ rfl
theorem Xs0 {g cap:Nat} {y:Xt} {n:Int} (h:OwnS tXt 110 I W B (.slice (some ⟨g,0,none⟩) l.length cap) l) (hy:l.getLast? =some y):
 OwnS tXt 110 I (W.setCell ⟨g,(l.length-1)*3+2,none⟩ (.int .i64 n)) B (.slice (some ⟨g,0,none⟩) l.length cap) (l.dropLast++ [⟨y.s,y.o,n⟩]):=by
 obtain ⟨xs,h1,h2⟩:=h
 have h0:0<l.length:=by cases l with
  |nil=>simp at hy
  |cons a l=>simp
 have hl:(l.dropLast++ [(⟨y.s,y.o,n⟩:Xt)]).length=l.length:=by simp;omega
 have hs:=(h1.stored ((l.length-1)*3+2) (.int .i64 n)).1
 refine ⟨_,by rw [hl];exact hs,by rw [hl,List.length_set];exact h2.1,fun i hi=> ?_⟩
 rw [hl] at hi
 obtain ⟨cs,k1,k2⟩:=h2.2 i hi
 by_cases he:i=l.length-1
 ·have hyl:l[i]=y:=by
   have:l.getLast? =some l[i]:=by rw [List.getLast?_eq_getElem?,←he,List.getElem?_eq_getElem hi]
   rw [hy] at this;exact (Option.some.inj this).symm
  have k1':cs= [.int .i64 (l[i]).s,.int .i64 (l[i]).o,.int .i64 (l[i]).n]:=k1
  rw [hyl] at k1'
  subst k1'
  refine ⟨[.int .i64 y.s,.int .i64 y.o,.int .i64 n],?_,fun j u hu=> ?_⟩
  ·show _=_
   rw [List.getElem_append_right (by simp;omega)]
   simp
  ·have hxl:xs.length=l.length*3:=h2.1
   match j,hu with
   |0,hu=>
    rw [List.getElem?_set_ne (by show (l.length-1)*3+2≠i*3+0;omega)];exact (k2 0 _ rfl).trans hu
   |1,hu=>
    rw [List.getElem?_set_ne (by show (l.length-1)*3+2≠i*3+1;omega)];exact (k2 1 _ rfl).trans hu
   |2,hu=>
    have e:i*tXt.size+2=(l.length-1)*3+2:=by show i*3+2=_;omega
    rw [e,List.getElem?_set_self (by omega)];exact hu
 ·refine ⟨cs,?_,fun j u hu=> ?_⟩
  ·rw [List.getElem_append_left (by simp;omega),List.getElem_dropLast];exact k1
  ·have hj:j<3:=by rw [←show cs.length=3 from tXt.len k1];exact (List.getElem?_eq_some_iff.1 hu).1
   rw [List.getElem?_set_ne (by show (l.length-1)*3+2≠i*3+j;omega)];exact k2 j u hu
end
abbrev xtW (x:Xt):Value:= .agg #[.int .i64 x.s,.int .i64 x.o,.int .i64 x.n]
abbrev xtL (x:Xt):List Value:= [.int .i64 x.s,.int .i64 x.o,.int .i64 x.n]
theorem Xuf:(Tryz.prog.info? 110).map (fun i=>(i.zero,i.size,i.bytes))=some (some (.agg #[.int .i64 0,.int .i64 0,.int .i64 0]),3,24):=by kernel_rfl
theorem Xiq:ElemOk Tryz.prog 33 110 tXt 24:=ElemOk.of Tryz.underlying33 Xuf rfl (by decide) rfl
theorem Xnz (x:Xt):addX [] x= [x]:=rfl
theorem Xn2 {l:List Xt} {y x:Xt} (h:l.getLast? =some y) (hn:¬(x.s≠0∧y.s=x.s∧y.o+y.n=x.o)):addX l x=l++ [x]:=by
 unfold addX;rw [h];show (if _ then _ else _)=_;rw [if_neg hn]
theorem Xn0 {l:List Xt} {y x:Xt} (h:l.getLast? =some y) (hn:x.s≠0∧y.s=x.s∧y.o+y.n=x.o):addX l x=l.dropLast++ [⟨y.s,y.o,y.n+x.n⟩]:=by
 unfold addX;rw [h];show (if _ then _ else _)=_;rw [if_pos hn]
theorem Xft {l:List Xt} {y:Xt} (h:l.getLast? =some y):y∈l:=List.mem_of_getLast? h
theorem Xr4 {l:List Xt} {x:Xt} {n m:Int} (hm:0≤m) (hl:∀z∈l,XB n z) (hx:XB m x) (hn:0≤n):∀z∈addX l x,XB (n+m) z:=by
 intro z hz
 cases hg:l.getLast? with
 |none=>
  have:l= []:=List.getLast?_eq_none_iff.1 hg
  subst this
  rw [Xnz] at hz
  simp at hz;subst hz
  exact hx.mono (by omega)
 |some y=>
  have hy:=hl y (Xft hg)
  by_cases hc:x.s≠0∧y.s=x.s∧y.o+y.n=x.o
  ·rw [Xn0 hg hc] at hz
   rcases List.mem_append.1 hz with hz|hz
   ·exact (hl z (List.dropLast_subset _ hz)).mono (by omega)
   ·simp at hz;subst hz
    unfold XB at*
    simp only
    omega
  ·rw [Xn2 hg hc] at hz
   rcases List.mem_append.1 hz with hz|hz
   ·exact (hl z hz).mono (by omega)
   ·simp at hz;subst hz
    exact hx.mono (by omega)
def AddR (I:IH) (B:Nat) (w:World) (v:Value) (l:List Xt) (e:Ending) (w':World):Prop:=
 ∃v',e= .returned v'∧OwnS tXt 110 I w' B v' l∧w.grownBy w' v.ownBlock∧ ∀g,v'.ownBlock=some g→v.ownBlock=some g∨w.heap.size≤g
theorem Xmq {s:Bytes} {k h:Nat} (hk:k<s.length) {N:Nat} (hr:firstG (s.drop k) k h=N):(if k+1=96∨(16≤k+1∧ckH h (s.getD k 0)<2048) then k+1 else firstG (s.drop (k+1)) (k+1) (ckH h (s.getD k 0)))=N:=by
 rw [List.drop_eq_getElem_cons hk,firstG] at hr
 rw [←hr];simp [List.getD,hk]
theorem Xwj (h:Nat) (b:UInt8):ckH h b<65536:=Nat.mod_lt _ (by decide)
theorem Xvt (h:Nat) (b:UInt8):((2*(h:Int)+40503*((b.toNat:Int)+1))%65536)=((ckH h b:Nat):Int):=by unfold ckH;omega
def tSg:Ty Sg:=Ty.flat 2 (fun x=> [.int .i64 x.n,S x.d]) (fun _=>rfl) (fun _ u h=>by simp at h;rcases h with rfl|rfl<;>rfl)
theorem Xuo:(Tryz.prog.info? 239).map (fun i=>(i.zero,i.size,i.bytes))=some (some (.agg #[.int .i64 0,.string ⟨#[]⟩]),2,24):=by kernel_rfl
theorem Xix:ElemOk Tryz.prog 236 239 tSg 24:=ElemOk.of Tryz.underlying236 Xuo rfl (by decide) rfl
theorem sgAt {I:IH} {v:Value} {l:List Sg} {w:World} (h:RdS tSg I v l) (hw:Ok I w) (i:Nat) (hi:i<l.length):∃x b off cap,l[i]=x∧v= .slice (some ⟨b,off,none⟩) l.length cap∧
 w.cell? ⟨b,off+i*2,none⟩=some (.int .i64 x.n)∧w.cell? ⟨b,off+i*2+1,none⟩=some (S x.d):=by
 obtain ⟨b,off,cap,cs,hv,hcs,hc⟩:=h.at_ hw hi
 have hcs':cs= [.int .i64 l[i].n,S l[i].d]:=hcs
 subst hcs'
 exact ⟨_,b,off,cap,rfl,hv,hc 0 _ rfl,hc 1 _ rfl⟩
def accP (s:Bytes) (f i:Nat):Bytes:=(s.drop f).take (i-f)
def tCk:Ty Ck:=Ty.flat 4 (fun c=> [S c.d,.int .i64 c.x.s,.int .i64 c.x.o,.int .i64 c.x.n]) (fun _=>rfl) (fun _ u h=>by simp at h;rcases h with rfl|rfl|rfl|rfl<;>rfl)
theorem Xvr:(Tryz.prog.info? 181).map (fun i=>(i.zero,i.size,i.bytes))=some (some (.agg #[.string ⟨#[]⟩,.int .i64 0,.int .i64 0,.int .i64 0]),4,40):=by kernel_rfl
theorem Xvs:ElemOk Tryz.prog 87 181 tCk 40:=ElemOk.of Tryz.underlying87 Xvr rfl (by decide) rfl
theorem ckAt {I:IH} {v:Value} {l:List Ck} {w:World} (h:RdS tCk I v l) (hw:Ok I w) (i:Nat) (hi:i<l.length):∃x b off cap,l[i]=x∧v= .slice (some ⟨b,off,none⟩) l.length cap∧
 w.cell? ⟨b,off+i*4,none⟩=some (S x.d)∧w.cell? ⟨b,off+i*4+1,none⟩=some (.int .i64 x.x.s)∧w.cell? ⟨b,off+i*4+2,none⟩=some (.int .i64 x.x.o)∧w.cell? ⟨b,off+i*4+3,none⟩=some (.int .i64 x.x.n):=by
 obtain ⟨b,off,cap,cs,hv,hcs,hc⟩:=h.at_ hw hi
 have hcs':cs= [S l[i].d,.int .i64 l[i].x.s,.int .i64 l[i].x.o,.int .i64 l[i].x.n]:=hcs
 subst hcs'
 exact ⟨_,b,off,cap,rfl,hv,hc 0 _ rfl,hc 1 _ rfl,hc 2 _ rfl,hc 3 _ rfl⟩
abbrev stoV (s:Sto) (vc:Value):Value:= .agg #[vc,.int .i64 s.ses,S s.str]
def findR (l:List Ck) (d:Bytes):Xt × Bool:=match findX l d with|some x=>(x,true)|none=>(⟨0,0,0⟩,false)
theorem Xc5 {W:World} {n:Nat} {a b c x y z:Value} {t:TypeId} (h:W.heap[n]? =some (.cells #[a,b,c] t (0,0))):(((W.setCell ⟨n,0,none⟩ x).setCell ⟨n,1,none⟩ y).setCell ⟨n,2,none⟩ z).heap[n]? =some (.cells #[x,y,z] t (0,0)):=by
 have:=heap_setCell_same _ n 2 _ _ z (heap_setCell_same _ n 1 _ _ y (heap_setCell_same W n 0 _ _ x h))
 simpa using this
abbrev stoC (s:Sto) (vc:Value):Array Value:= #[vc,.int .i64 s.ses,S s.str]
structure PutM (n:Nat) (J:IH) (W:World) (s:Sto) (l:List Xt) (vc vo:Value):Prop where
 row:W.heap[n]? =some (.cells #[vc,.int .i64 s.ses,S s.str] 89 (0,0))
 res:W.heap[n+1]? =some (.cells #[.slice none 0 0,.int .i64 0,S []] 89 (0,0))
 cks:RdS tCk J vc s.cks
 own:OwnS tXt 110 J W (n+2) vo l
 apart:∀g,vo.ownBlock=some g→J g=none
 ok:Ok J W
 free:J n=none
 freR:J (n+1)=none
section
variable {n:Nat} {I J J':IH} {W W':World} {s s':Sto} {l l':List Xt} {vc vc' vo vo':Value}
end
theorem Xcu {W w':World} {a:Addr} {x:Value} {row:Option Nat} (hg:W.grownBy w' row) (hne:row≠some a.block) (h:W.cell? a=some x) (hf:W.frozen? a=false):w'.frozen? a=false:=
 (World.frozen?_of_block (hg.block _ (block_lt_of_cell h) (fun e=>hne e.symm))).trans hf
theorem OwnS.freezeA {α:Type} {T:Ty α} {E:TypeId} {I:IH} {w:World} {B:Nat} {v:Value} {l:List α} (h:OwnS T E I w B v l) (hw:Ok I w) (hI:∀g,v.ownBlock=some g→I g=none):∃I',(∀b c,I b=some c→I' b=some c)∧Ext B I I'∧Ok I' w∧RdS T I' v l∧ ∀b,v.ownBlock≠some b→I' b=I b:=by
 obtain ⟨xs,⟨h1,h1'⟩,h2⟩:=h
 rcases h1' with ⟨rfl,h0⟩|⟨g,cap,cur,rfl,hb,hg,hnc,hcm,hcs,ht⟩
 ·refine ⟨I,fun _ _ h=>h,Ext.refl _ _,hw,?_,fun _ _=>rfl⟩
  have:l= []:=List.eq_nil_of_length_eq_zero h0
  subst this
  exact RdS.nil T I
 ·have hkeep:∀b c,I b=some c→(I.add g cur) b=some c:=fun b c hc=>by
   unfold IH.add
   by_cases e:b=g
   ·subst e;rw [hI _ rfl] at hc;cases hc
   ·rw [if_neg e];exact hc
  refine ⟨I.add g cur,hkeep,Ext.add hb I cur,hw.add hg,⟨_,cap,rfl,hnc,hcm,fun _=>⟨g,0,cur,rfl,by simp [IH.add],fun i hi=> ?_⟩⟩,fun b hbn=> ?_⟩
  ·obtain ⟨cs,k1,k2⟩:=h2.2 i hi
   refine ⟨cs,T.mono hkeep k1,fun j u hu=> ?_⟩
   have hx:=k2 j u hu
   rw [←ht,List.getElem?_take] at hx
   split at hx
   ·rw [Nat.zero_add,←Array.getElem?_toList];exact hx
   ·cases hx
  ·have:b≠g:=fun e=>hbn (by simp [Value.ownBlock,e])
   simp [IH.add,this]
theorem Xec:∀ {l:List Bytes} {c:Bytes},c∈l→c.length≤l.flatten.length
 |x::l,c,h=>by
  rw [List.flatten_cons,List.length_append]
  rcases List.mem_cons.1 h with rfl|h
  ·omega
  ·have:=Xec h;omega
theorem Xs1 {α:Type} {T:Ty α} {E:TypeId} {I:IH} {w:World} {B:Nat} {v:Value} {l:List α} {x:α} (h:OwnS T E I w B v (l++ [x])):∃g n cap,v= .slice (some ⟨g,0,none⟩) n cap:=by
 obtain ⟨xs,h1,_⟩:=h
 rcases h1.2 with ⟨_,h0⟩|⟨g,cap,cur,h,_⟩
 ·simp at h0
 ·exact ⟨_,_,_,h⟩
structure BdP (L C:Nat) (m:Nat) (s:Sto) (l:List Xt):Prop where
 s0:1≤s.ses
 s1:s.ses≤255
 str:s.str.length≤L+65536*m
 cks:s.cks.length≤C+m
 cx:∀c∈s.cks,XB 65536 c.x
 len:l.length≤m
 xs:∀z∈l,XB (65536*m) z
theorem BdP.add {L C m:Nat} {s:Sto} {l:List Xt} (h:BdP L C m s l) {x:Xt} (hx:XB 65536 x):BdP L C (m+1) s (addX l x):=
 ⟨h.s0,h.s1,by have:=h.str;omega,by have:=h.cks;omega,h.cx,by have:=(Xn1 l x).1;have:=h.len;omega,fun z hz=>(Xr4 (by decide) h.xs hx (by omega) z hz).mono (by omega)⟩
theorem Xhh:∀ {l:List Ck} {d:Bytes} {x:Xt},findX l d=some x→ ∃c∈l,c.x=x
 |c::l,d,x,h=>by
  rw [findX] at h
  split at h
  ·exact ⟨c,List.mem_cons_self ..,Option.some.inj h⟩
  ·obtain ⟨c',h1,h2⟩:=Xhh h
   exact ⟨c',List.mem_cons_of_mem _ h1,h2⟩
theorem Xjb {L C m:Nat} {s:Sto} {l:List Xt} (h:BdP L C m s l) (hL:L≤4294967296) (hm:m≤65536) {c:Bytes} (hc:c.length≤65536):XB 65536 (newX s c):=by
 have:=h.s0;have:=h.s1;have:=h.str
 unfold XB newX
 simp only
 omega
theorem BdP.grow {L C m:Nat} {s:Sto} {l:List Xt} (h:BdP L C m s l) (hL:L≤4294967296) (hm:m≤65536) {c:Bytes} (hc:c.length≤65536):
 BdP L C (m+1) ⟨s.cks++ [⟨sumP c,newX s c⟩],s.ses,s.str++c⟩ (addX l (newX s c)):=by
 have ha:=h.add (Xjb h hL hm hc)
 refine ⟨h.s0,h.s1,?_,?_,fun k hk=> ?_,ha.len,ha.xs⟩
 ·have:=h.str;simp;omega
 ·have:=h.cks;simp;omega
 ·rcases List.mem_append.1 hk with hk|hk
  ·exact h.cx k hk
  ·simp at hk;subst hk;exact Xjb h hL hm hc
theorem BdP.grow' {L C m:Nat} {s:Sto} {l:List Xt} (h:BdP L C m s l) (hL:L≤4294967296) (hm:m≤65536) {c dg:Bytes} (hc:c.length≤65536):
 BdP L C (m+1) ⟨s.cks++ [⟨dg,newX s c⟩],s.ses,s.str++c⟩ (addX l (newX s c)):=by
 have ha:=h.grow hL hm hc
 refine ⟨h.s0,h.s1,ha.str,by have:=ha.cks;simpa using this,fun k hk=> ?_,ha.len,ha.xs⟩
 rcases List.mem_append.1 hk with hk|hk
 ·exact h.cx k hk
 ·simp at hk;subst hk;exact Xjb h hL hm hc
theorem Xqb {s:Sto} {c:Bytes} {l:List Xt} {x:Xt} (h:findX s.cks (sumP c)=some x):putO (s,l) c=(s,addX l x):=by
 unfold putO putC;simp only [h]
theorem Xqa {s:Sto} {c:Bytes} {l:List Xt} (h:findX s.cks (sumP c)=none):putO (s,l) c=(⟨s.cks++ [⟨sumP c,newX s c⟩],s.ses,s.str++c⟩,addX l (newX s c)):=by
 unfold putO putC;simp only [h]
theorem Xk3 {α β:Type} {f:β→α→β} {l:List α} {k:Nat} {p R:β} (hk:k<l.length) {x:α} (hx:l[k]=x) (h:(l.drop k).foldl f p=R):(l.drop (k+1)).foldl f (f p x)=R:=by
 rw [List.drop_eq_getElem_cons hk,hx,List.foldl_cons] at h;exact h
end Go.Proofs.YtkipnpjagcfcpaaGreatDoor
namespace Go.Proofs.YtkipnpjagcfcpaaGreatDoor
structure Chg where
 kind:Int
 path:Bytes
 attrs:List At
 target:Bytes
 content:Bytes
structure Drf where
 num:Int
 date:Int
 prev:Bytes
 ents:List Ent
 sto:Sto
 tree:List Ent
 holds:List Ho
def nilD:Drf:=⟨0,0,[],[],⟨[],0,[]⟩,[],[]⟩
def recP (q:Sto) (c:Chg):Ent × Sto:=
 if c.kind=1 then (⟨c.kind,c.path,c.attrs,c.target,(c.content.length:Nat),sumP c.content,(putP q c.content).2.1⟩,(putP q c.content).1)
 else (⟨c.kind,c.path,c.attrs,c.target,0,[],[]⟩,q)
def Drf.stt (d:Drf):Stt:=⟨d.tree,d.holds⟩
def addP (d:Drf) (c:Chg):Drf × Int:=
 if entErr (recP d.sto c).1≠0 then (d,entErr (recP d.sto c).1)
 else if c.kind≠1∧c.content≠ [] then (d,1)
 else if 400≤d.ents.length∨14680064<(recP d.sto c).2.str.length then (d,6)
 else if (stpP d.stt (recP d.sto c).1 d.date).2≠0 then (d,(stpP d.stt (recP d.sto c).1 d.date).2)
 else (⟨d.num,d.date,d.prev,d.ents++ [(recP d.sto c).1],(recP d.sto c).2,(stpP d.stt (recP d.sto c).1 d.date).1.tree,(stpP d.stt (recP d.sto c).1 d.date).1.holds⟩,0)
def closeP (d:Drf):Ses:=⟨d.num,d.date,d.prev,d.ents,d.sto.str,[]⟩
def addsP:Drf→Nat→List Chg→Drf × Nat × Int
 |d,i,[]=>(d,i,0)
 |d,i,c::l=>if (addP d c).2≠0 then (d,i,(addP d c).2) else addsP (addP d c).1 (i+1) l
def stoE (st:List Bytes) (q:Sto) (e:Ent):Sto:=if e.kind=1 then (putP q (getP st e.exts).1).1 else q
def stoS (st:List Bytes) (q:Sto) (x:Ses):Sto:=x.ents.foldl (stoE st) (beginP q x.num).1
def nilQ:Sto:=⟨[],0,[]⟩
def strsP (L:List Ses):List Bytes:=L.map fun x=>x.stream
def repQ (L:List Ses):Sto:=L.foldl (stoS (strsP L)) nilQ
def lastDig (L:List Ses):Bytes:=match L.getLast? with|none=> []|some x=>sumP (sesText x)
def lastDt (L:List Ses):Int:=match L.getLast? with|none=>0|some x=>x.date
def openP (L:List Ses) (date:Int):Drf:=⟨(L.length:Nat)+1,date,lastDig L,[],⟨(repQ L).cks,(L.length:Nat)+1,[]⟩,(aftS nilS L).tree,actP (aftS nilS L).holds date⟩
def begErr (L:List Ses) (date:Int):Int:=if 255≤L.length then 6 else if date<0∨1000000000<date then 2 else if date<lastDt L then 14 else 0
def begP (L:List Ses) (date:Int):Drf × Int:=if begErr L date≠0 then (nilD,begErr L date) else (openP L date,0)
def appErr (L:List Ses) (s:Ses):Int:=if 255≤L.length then 6 else if s.num≠(L.length:Nat)+1∨(L≠ []∧s.date<lastDt L) then 14 else if s.prev≠lastDig L then 20 else 0
def appP (L:List Ses) (s:Ses):List Ses × Int:=if appErr L s≠0 then (L,appErr L s) else (L++ [s],0)
def wrtP (L:List Ses) (date:Int) (l:List Chg):List Ses × Nat × Int:=
 if begErr L date≠0 then (L,0,begErr L date)
 else if (addsP (openP L date) 0 l).2.2≠0 then (L,(addsP (openP L date) 0 l).2.1,(addsP (openP L date) 0 l).2.2)
 else (L++ [closeP (addsP (openP L date) 0 l).1],l.length,0)
theorem Xwr {l:List Xt} {x y:Xt} (h:y∈addX l x) {m:Int} (hl:∀z∈l,z.s≤m) (hx:x.s≤m):y.s≤m:=by
 unfold addX at h
 split at h
 ·rw [List.mem_singleton.1 h];exact hx
 ·rename_i z hz
  split at h
  ·rcases List.mem_append.1 h with h|h
   ·exact hl y (List.dropLast_subset _ h)
   ·rw [List.mem_singleton.1 h];exact hl z (List.mem_of_getLast? hz)
  ·rcases List.mem_append.1 h with h|h
   ·exact hl y h
   ·rw [List.mem_singleton.1 h];exact hx
structure CkW (m:Int) (c:Ck):Prop where
 x:XB 65536 c.x
 s:c.x.s≤m
 d:c.d.length≤32
theorem Xv7 (s:Bytes):(sumP s).length≤32:=Xb7 s
structure StoW (q:Sto):Prop where
 s0:1≤q.ses
 s1:q.ses≤255
 str:q.str.length≤4294901760
 cx:∀c∈q.cks,CkW q.ses c
structure StB (q:Sto) (b:Nat) (p:Sto × List Xt):Prop where
 ses:p.1.ses=q.ses
 str:p.1.str.length≤q.str.length+b
 cks:p.1.cks.length≤q.cks.length+b
 len:p.2.length≤b
 cx:∀c∈p.1.cks,CkW q.ses c
 xs:∀x∈p.2,XB (65536*b) x
 x0:∀x∈p.2,x.s≤q.ses
theorem StB.add {q:Sto} {b n:Nat} {p:Sto × List Xt} (h:StB q b p) (hn:1≤n) {x:Xt} (hx:XB 65536 x) (hs:x.s≤q.ses):StB q (b+n) (p.1,addX p.2 x):=
 ⟨h.ses,Nat.le_trans h.str (by omega),Nat.le_trans h.cks (by omega),by have:=(Xn1 p.2 x).1;have:=h.len;show (addX p.2 x).length≤_;omega,h.cx,
   fun z hz=>(Xr4 (by decide) h.xs hx (by omega) z hz).mono (by omega),fun z hz=>Xwr hz h.x0 hs⟩
theorem Xse {q:Sto} (hq:StoW q) {b:Nat} {p:Sto × List Xt} (h:StB q b p) {c:Bytes} (hc:c≠ []) (hb:b+c.length≤65536):StB q (b+c.length) (putO p c):=by
 have hl:=List.length_pos_iff.2 hc
 have hs:=h.ses
 obtain ⟨s,l⟩:=p
 cases hf:findX s.cks (sumP c) with
 |some x=>
  obtain ⟨k,hk,rfl⟩:=Xhh hf
  rw [Xqb hf]
  exact h.add hl (h.cx k hk).x (h.cx k hk).s
 |none=>
  have h1:=h.str
  have h2:=hq.str
  have h3:=hq.s0
  have h4:=hq.s1
  dsimp only at h1 hs
  have hx:XB 65536 (newX s c)∧(newX s c).s≤q.ses:=by
   unfold XB newX
   simp only
   omega
  have ha:=h.add hl hx.1 hx.2
  rw [Xqa hf]
  refine ⟨hs,?_,?_,ha.len,fun k hk=> ?_,ha.xs,ha.x0⟩
  ·have:=h.str;simp at *;omega
  ·have:=h.cks;simp at *;omega
  ·rcases List.mem_append.1 hk with hk|hk
   ·exact h.cx k hk
   ·rw [List.mem_singleton.1 hk];exact ⟨hx.1,hx.2,Xv7 c⟩
theorem Xh7 {q:Sto} (hq:StoW q):∀ {l:List Bytes} {b:Nat} {p:Sto × List Xt},StB q b p→(∀c∈l,c≠ [])→b+l.flatten.length≤65536→StB q (b+l.flatten.length) (l.foldl putO p)
 | [],b,p,h,_,_=>by simpa using h
 |c::l,b,p,h,hl,hb=>by
  rw [List.flatten_cons,List.length_append] at hb ⊢
  have:=Xh7 hq (Xse hq h (hl c (List.mem_cons_self ..)) (by omega)) (fun x hx=>hl x (List.mem_cons_of_mem _ hx)) (by omega)
  rw [List.foldl_cons,←Nat.add_assoc]
  exact this
theorem Xiv {q:Sto} (hq:StoW q):∀ {l:List Sg} {b:Nat} {p:Sto × List Xt},StB q b p→(∀g∈l,(g.n=0∧g.d≠ [])∨(0<g.n∧g.d= []))→b+segSz l≤65536→StB q (b+segSz l) (l.foldl putG p)
 | [],b,p,h,_,_=>by simpa [segSz] using h
 |g::l,b,p,h,hl,hb=>by
  rw [Xdu] at hb ⊢
  have hr:=fun x hx=>hl x (List.mem_cons_of_mem _ hx)
  rw [List.foldl_cons,←Nat.add_assoc]
  rcases hl g (List.mem_cons_self ..) with ⟨h0,h1⟩|⟨h0,h1⟩
  ·rw [putG,if_neg h1]
   have e:=Xho g.d
   have h2:=Xh7 hq (l:=chunksP g.d) h Xro (by rw [e];omega)
   rw [e] at h2
   have h3:=Xiv hq (l:=l) (b:=b+(g.n.toNat+g.d.length)) (by rw [h0];simpa using h2) hr (by omega)
   exact h3
  ·rw [putG,if_pos h1]
   have hq0:=hq.s0
   have h2:=h.add (n:=g.n.toNat+g.d.length) (by omega) (x:=⟨0,0,g.n⟩) (by unfold XB;simp only;omega) (by show (0:Int)≤_;omega)
   exact Xiv hq h2 hr (by omega)
theorem Xqd {q:Sto} (hq:StoW q) {c:Bytes} (hc:c.length≤65536):StB q c.length ((putP q c).1,(putP q c).2.1)∧(putP q c).2.2=0:=by
 have h1:=hq.s0
 have h2:=hq.s1
 have h:=Xiv hq (l:=segsP c) (b:=0) (p:=(q,[])) ⟨rfl,Qn _,Qn _,Qn _,hq.cx,fun _ h=>(by cases h),fun _ h=>(by cases h)⟩ Xgq (by rw [Xen];omega)
 rw [Xen,Nat.zero_add] at h
 rw [putP,if_neg (by omega),if_neg (by omega)]
 exact ⟨h,rfl⟩
theorem Xnl {st:List Bytes}:∀ {l:List Xt} {out:Bytes},out.length≤65536→(getG st l out).1.length≤65536
 | [],out,h=>h
 |x::l,out,h=>by
  rw [getG]
  split
  ·simp
  ·rename_i h1
   split
   ·simp
   ·split
    ·simp
    ·rename_i h2 h3
     refine Xnl ?_
     rw [List.length_append]
     split
     ·rw [List.length_replicate];omega
     ·rw [List.length_take];omega
theorem Xnj (st:List Bytes) (l:List Xt):(getP st l).1.length≤65536:=Xnl (by simp)
end Go.Proofs.YtkipnpjagcfcpaaGreatDoor
namespace Go.Proofs.YtkipnpjagcfcpaaGreatDoor
structure Chg.Wf (c:Chg):Prop where
 k0: -9223372036854775808≤c.kind
 k1:c.kind≤9223372036854775807
 path:c.path.length≤4294967280
 attrs:∀x∈c.attrs,x.Wf
 target:c.target.length≤4294967280
 content:c.content.length≤65536
theorem Xgg {e:Ent} (h:entErr e=0):e.Wf:=by
 have k:=Xca h
 have:=k.path;have:=k.target;have:=k.digest;have:=k.k1;have:=k.k6;have:=k.s0;have:=k.s1
 refine ⟨by omega,by omega,by omega,fun x hx=> ?_,by omega,by omega,by omega,by omega,fun x hx=> ?_⟩
 ·have:=k.att x hx
  exact ⟨by omega,by omega⟩
 ·have:=k.xts x hx
  exact ⟨⟨by omega,by omega⟩,⟨by omega,by omega⟩,⟨by omega,by omega⟩⟩
structure DrOk (n:Nat) (d:Drf):Prop where
 st:SIn n d.stt
 ents:d.ents.length≤n
 s0:1≤d.sto.ses
 s1:d.sto.ses≤255
 str:d.sto.str.length≤65536*n
 cks:d.sto.cks.length≤65536*n
 cx:∀c∈d.sto.cks,CkW d.sto.ses c
 date:0≤d.date∧d.date≤1000000000
theorem DrOk.mono {n m:Nat} {d:Drf} (h:DrOk n d) (hm:n≤m):DrOk m d:=
 ⟨h.st.mono hm,Nat.le_trans h.ents hm,h.s0,h.s1,Nat.le_trans h.str (by omega),Nat.le_trans h.cks (by omega),h.cx,h.date⟩
theorem DrOk.sto {n:Nat} {d:Drf} (h:DrOk n d) (hn:n≤60000):StoW d.sto:=⟨h.s0,h.s1,by have:=h.str;omega,h.cx⟩
structure RecB (q:Sto) (b:Nat) (r:Ent × Sto):Prop where
 ses:r.2.ses=q.ses
 str:r.2.str.length≤q.str.length+b
 cks:r.2.cks.length≤q.cks.length+b
 cx:∀c∈r.2.cks,CkW q.ses c
 len:r.1.exts.length≤b
 xs:∀x∈r.1.exts,XB (65536*b) x
 x0:∀x∈r.1.exts,x.s≤q.ses
theorem Xp8 {q:Sto} (hq:StoW q) {c:Chg} (hc:c.content.length≤65536):RecB q c.content.length (recP q c):=by
 unfold recP
 split
 ·have h:=(Xqd hq hc).1
  exact ⟨h.ses,h.str,h.cks,h.cx,h.len,h.xs,h.x0⟩
 ·exact ⟨rfl,Nat.le_add_right _ _,Nat.le_add_right _ _,hq.cx,Nat.zero_le _,fun _ h=>(by cases h),fun _ h=>(by cases h)⟩
theorem Xv8 (s:Bytes):(sumP s).length≤32:=Xb7 s
theorem Xp7 {q:Sto} (hq:StoW q) {c:Chg} (hc:c.Wf):(recP q c).1.Wf:=by
 have hl:=hc.content
 have hb:=Xp8 hq hl
 have hx:∀x∈(recP q c).1.exts,x.Wf:=fun x hx=>by
  have:=hb.xs x hx
  unfold XB at this
  exact ⟨⟨by omega,by omega⟩,⟨by omega,by omega⟩,⟨by omega,by omega⟩⟩
 have hp:=hc.path
 have ht:=hc.target
 have hs:=Xv8 c.content
 unfold recP at hx ⊢
 split
 ·rename_i hk
  rw [if_pos hk] at hx
  exact ⟨hc.k0,hc.k1,by show c.path.length≤_;omega,hc.attrs,by show c.target.length≤_;omega,by show _≤((c.content.length:Nat):Int);omega,by show ((c.content.length:Nat):Int)≤_;omega,by show (sumP c.content).length≤_;omega,hx⟩
 ·exact ⟨hc.k0,hc.k1,by show c.path.length≤_;omega,hc.attrs,by show c.target.length≤_;omega,by show (-9223372036854775808:Int)≤0;decide,by show (0:Int)≤9223372036854775807;decide,by show (0:Nat)≤9223372036854775807;decide,fun _ h=>(by cases h)⟩
theorem Xog (q:Sto) (c:Chg):(recP q c).1.kind=c.kind∧(recP q c).1.path=c.path∧(recP q c).1.attrs=c.attrs∧(recP q c).1.target=c.target:=by
 unfold recP
 split<;>exact ⟨rfl,rfl,rfl,rfl⟩
theorem Xci {e:Ent} (h:entErr e=0):e.path.length≤300∧e.target.length≤300:=by
 have k:=Xca h
 have:=k.path;have:=k.target
 omega
theorem Xe9 (d:Drf) (c:Chg):((addP d c).2≠0∧(addP d c).1=d)∨((addP d c).2=0∧entErr (recP d.sto c).1=0∧(c.kind=1∨c.content= [])∧d.ents.length<400∧(recP d.sto c).2.str.length≤14680064∧(stpP d.stt (recP d.sto c).1 d.date).2=0∧
 (addP d c).1=⟨d.num,d.date,d.prev,d.ents++ [(recP d.sto c).1],(recP d.sto c).2,(stpP d.stt (recP d.sto c).1 d.date).1.tree,(stpP d.stt (recP d.sto c).1 d.date).1.holds⟩):=by
 unfold addP
 by_cases h1:entErr (recP d.sto c).1≠0
 ·rw [if_pos h1];exact .inl ⟨h1,rfl⟩
 rw [if_neg h1]
 by_cases h2:c.kind≠1∧c.content≠ []
 ·rw [if_pos h2];exact .inl ⟨(by decide:(1:Int)≠0),rfl⟩
 rw [if_neg h2]
 by_cases h3:400≤d.ents.length∨14680064<(recP d.sto c).2.str.length
 ·rw [if_pos h3];exact .inl ⟨(by decide:(6:Int)≠0),rfl⟩
 rw [if_neg h3]
 by_cases h4:(stpP d.stt (recP d.sto c).1 d.date).2≠0
 ·rw [if_pos h4];exact .inl ⟨h4,rfl⟩
 rw [if_neg h4]
 refine .inr ⟨rfl,by omega,?_,by omega,by omega,by omega,rfl⟩
 by_cases hk:c.kind=1
 ·exact .inl hk
 ·exact .inr (Classical.byContradiction fun q=>h2 ⟨hk,q⟩)
theorem Xue {n:Nat} {d:Drf} (h:DrOk n d) (hn:n≤60000) {c:Chg} (hc:c.content.length≤65536):DrOk (n+1) (addP d c).1:=by
 rcases Xe9 d c with ⟨_,e⟩|⟨_,h1,_,_,_,h5,e⟩
 ·rw [e];exact h.mono (by omega)
 ·have hb:=Xp8 (h.sto hn) hc
  have hs:=Xci h1
  have hst:=Xiu h.st (recP d.sto c).1 d.date hs.1 hs.2
  rw [e]
  have:=h.ents;have:=hb.str;have:=hb.cks;have:=h.str;have:=h.cks
  refine ⟨hst,by simp;omega,by rw [hb.ses];exact h.s0,by rw [hb.ses];exact h.s1,by show (recP d.sto c).2.str.length≤_;omega,by show (recP d.sto c).2.cks.length≤_;omega,fun k hk=> ?_,h.date⟩
  show CkW (recP d.sto c).2.ses k
  rw [hb.ses]
  exact hb.cx k hk
theorem Xv5 (l:List Ho) (d:Int):actP (actP l d) d=actP l d:=by
 unfold actP
 rw [List.filter_filter]
 simp
theorem Xr2 {h h':List Ho} {d:Int} (hh:actP h d=actP h' d) (k:Int) (p:Bytes):alwP h k p d=alwP h' k p d:=by
 unfold alwP heldP belowP
 rw [hh]
theorem Xrz {h h':List Ho} {d:Int} (hh:actP h d=actP h' d) (e:Ent):appH h e d=appH h' e d:=by
 unfold appH
 rw [hh]
theorem Xpl {t:List Ent} {h h':List Ho} {d:Int} (hh:actP h d=actP h' d) (e:Ent):
 (stpP ⟨t,h⟩ e d).2=(stpP ⟨t,h'⟩ e d).2∧((stpP ⟨t,h'⟩ e d).2=0→(stpP ⟨t,h⟩ e d).1=(stpP ⟨t,h'⟩ e d).1):=by
 have ha:askP ⟨t,h⟩ e d=askP ⟨t,h'⟩ e d:=by
  unfold askP
  dsimp only
  rw [Xr2 hh]
 unfold stpP
 rw [ha]
 dsimp only
 rw [Xrz hh]
 by_cases h1:(applyT t e).2≠0
 ·rw [if_pos h1,if_pos h1];exact ⟨rfl,fun q=>absurd q h1⟩
 rw [if_neg h1,if_neg h1]
 by_cases h2:askP ⟨t,h'⟩ e d≠0
 ·rw [if_pos h2,if_pos h2];exact ⟨rfl,fun q=>absurd q h2⟩
 rw [if_neg h2,if_neg h2]
 by_cases h3:(appH h' e d).2≠0
 ·rw [if_pos h3,if_pos h3];exact ⟨rfl,fun q=>absurd q h3⟩
 rw [if_neg h3,if_neg h3]
 exact ⟨rfl,fun _=>rfl⟩
theorem Xip {d:Int} {e:Ent}:∀ {l:List Ent} {s:Stt},AllOk d s l→(stpP (runS s d l) e d).2=0→AllOk d s (l++ [e])
 | [],s,_,h=>⟨h,trivial⟩
 |x::l,s,⟨h1,h2⟩,h=>⟨h1,Xip h2 h⟩
theorem Xnw {d:Int}:∀ {l:List Ent} {s:Stt},AllOk d s l→ ∀(j:Nat) (h:j<l.length),(stpP (runS s d (l.take j)) l[j] d).2=0
 |x::l,s,⟨h1,h2⟩,0,_=>h1
 |x::l,s,⟨h1,h2⟩,j+1,h=>Xnw h2 j (by simpa using h)
theorem Xht {x:Ses}:∀ {L:List Ses} {s:Stt},AllSes s L→AllOk x.date (aftS s L) x.ents→AllSes s (L++ [x])
 | [],s,_,h=>⟨h,trivial⟩
 |y::L,s,⟨h1,h2⟩,h=>⟨h1,Xht h2 h⟩
theorem Xlx:∀ {L:List Ses} {s:Stt},AllSes s L→ ∀(k:Nat) (h:k<L.length),AllOk L[k].date (aftS s (L.take k)) L[k].ents
 |x::L,s,⟨h1,h2⟩,0,_=>h1
 |x::L,s,⟨h1,h2⟩,k+1,h=>Xlx h2 k (by simpa using h)
theorem Xly {d:Int}:∀ {l:List Ent} {s:Stt},AllOk d s l→ ∀e∈l,entErr e=0
 | [],_,_,e,he=>by cases he
 |x::l,s,⟨h1,h2⟩,e,he=>by
  rcases List.mem_cons.1 he with rfl|he
  ·exact (step_ok h1).2.2
  ·exact Xly h2 e he
structure SesW (i:Nat) (x:Ses):Prop where
 num:x.num=(i:Nat)+1
 date:0≤x.date∧x.date≤1000000000
 prev:x.prev.length≤32
 sl:x.sl= []
 stream:x.stream.length≤14680064
 exts:∀e∈x.ents,e.exts.length≤1000
 xs:∀e∈x.ents,∀y∈e.exts,0≤y.s∧y.s≤(i:Nat)+1
structure ArcOk (n m:Nat) (L:List Ses):Prop where
 len:L.length≤m
 tot:(pairs L).length≤n
 all:AllSes nilS L
 ses:∀i x,L[i]? =some x→SesW i x
theorem Xv0:ArcOk 0 0 []:=⟨Qn _,Qn _,trivial,fun i x h=>by simp at h⟩
theorem ArcOk.mono {n m n' m':Nat} {L:List Ses} (h:ArcOk n m L) (hn:n≤n') (hm:m≤m'):ArcOk n' m' L:=⟨Nat.le_trans h.len hm,Nat.le_trans h.tot hn,h.all,h.ses⟩
theorem ArcOk.at_ {n m:Nat} {L:List Ses} (h:ArcOk n m L) {k:Nat} (hk:k<L.length) {x:Ses} (hx:L[k]=x):SesW k x:=h.ses k x (by rw [List.getElem?_eq_getElem hk,hx])
theorem ArcOk.okAt {n m:Nat} {L:List Ses} (h:ArcOk n m L) {k:Nat} (hk:k<L.length) {x:Ses} (hx:L[k]=x):AllOk x.date (aftS nilS (L.take k)) x.ents:=by
 have:=Xlx h.all k hk
 rw [hx] at this;exact this
theorem ArcOk.err {n m:Nat} {L:List Ses} (h:ArcOk n m L) {x:Ses} (hx:x∈L):∀e∈x.ents,entErr e=0:=by
 obtain ⟨k,hk,e⟩:=List.getElem_of_mem hx
 exact Xly (h.okAt hk e)
theorem Xdj (a b:List Ses):pairs (a++b)=pairs a++pairs b:=by simp [pairs]
theorem Xfd (x:Ses):(pairs [x]).length=x.ents.length:=by simp [pairs]
theorem Xez {L:List Ses} {k:Nat} (hk:k<L.length) {x:Ses} (hx:L[k]=x):(pairs (L.take k)).length+x.ents.length≤(pairs L).length:=by
 have e:L=L.take k++([x]++L.drop (k+1)):=by
  rw [←hx]
  simp
 have:=congrArg (fun l=>(pairs l).length) e
 simp only [Xdj,List.length_append,Xfd] at this
 omega
theorem ArcOk.ents {n m:Nat} {L:List Ses} (h:ArcOk n m L) {x:Ses} (hx:x∈L):x.ents.length≤n:=by
 obtain ⟨k,hk,e⟩:=List.getElem_of_mem hx
 have:=Xez hk e
 have:=h.tot
 omega
theorem Xom {L:List Ses} {k:Nat} (hk:k<L.length) {x:Ses} (hx:L[k]=x):(pairs (L.take (k+1))).length=(pairs (L.take k)).length+x.ents.length:=by
 rw [List.take_succ_eq_append_getElem hk,hx,Xdj,List.length_append,Xfd]
theorem ArcOk.sin {n m:Nat} {L:List Ses} (h:ArcOk n m L) {k:Nat} (hk:k<L.length) {x:Ses} (hx:L[k]=x) (j:Nat) (hj:j≤x.ents.length):SIn n (runS (aftS nilS (L.take k)) x.date (x.ents.take j)):=by
 have hp:=Xez hk hx
 have ht:=h.tot
 have h1:SIn (0+(pairs (L.take k)).length) (aftS nilS (L.take k)):=by
  rw [Xhu]
  refine Xjg _ Xpv fun q hq=> ?_
  obtain ⟨s,hs,hq'⟩:=List.mem_flatMap.1 hq
  obtain ⟨e,he,rfl⟩:=List.mem_map.1 hq'
  exact Xci (h.err (List.mem_of_mem_take hs) e he)
 have h2:=Xpy (x.ents.take j) h1 x.date fun e he=>Xci (h.err (by rw [←hx];exact List.getElem_mem hk) e (List.mem_of_mem_take he))
 refine h2.mono ?_
 rw [List.length_take]
 omega
theorem ArcOk.sinAll {n m:Nat} {L:List Ses} (h:ArcOk n m L):SIn n (aftS nilS L):=by
 have h1:SIn (0+(pairs L).length) (aftS nilS L):=by
  rw [Xhu]
  refine Xjg _ Xpv fun q hq=> ?_
  obtain ⟨s,hs,hq'⟩:=List.mem_flatMap.1 hq
  obtain ⟨e,he,rfl⟩:=List.mem_map.1 hq'
  exact Xci (h.err hs e he)
 exact h1.mono (by have:=h.tot;omega)
structure RpB (i b:Nat) (q:Sto):Prop where
 ses:q.ses=(i:Nat)
 str:q.str.length≤65536*b
 cks:q.cks.length≤65536*b
 cx:∀c∈q.cks,CkW q.ses c
theorem Xur:RpB 0 0 nilQ:=⟨rfl,Qn _,Qn _,fun _ h=>(by cases h)⟩
theorem RpB.mono {i b c:Nat} {q:Sto} (h:RpB i b q) (hc:b≤c):RpB i c q:=⟨h.ses,Nat.le_trans h.str (by omega),Nat.le_trans h.cks (by omega),h.cx⟩
theorem RpB.begin {i b:Nat} {q:Sto} (h:RpB i b q) (hi:i<255):beginP q ((i:Nat)+1)=(⟨q.cks,(i:Nat)+1,[]⟩,0)∧RpB (i+1) b ⟨q.cks,(i:Nat)+1,[]⟩:=by
 have hs:=h.ses
 refine ⟨by rw [beginP,if_neg (by omega),if_neg (by omega)],by show ((i:Nat):Int)+1=((i+1:Nat):Int);omega,Nat.zero_le _,h.cks,fun c hc=>⟨(h.cx c hc).x,?_,(h.cx c hc).d⟩⟩
 have:=(h.cx c hc).s
 show c.x.s≤(i:Int)+1
 omega
theorem RpB.stoW {i b:Nat} {q:Sto} (h:RpB i b q) (h0:1≤i) (h1:i≤255) (hb:b≤60000):StoW q:=⟨by rw [h.ses];omega,by rw [h.ses];omega,by have:=h.str;omega,h.cx⟩
theorem RpB.step {i b:Nat} {q:Sto} (h:RpB i b q) (h0:1≤i) (h1:i≤255) (hb:b≤60000) (st:List Bytes) (e:Ent):RpB i (b+1) (stoE st q e):=by
 unfold stoE
 split
 ·have hl:=Xnj st e.exts
  have hp:=(Xqd (h.stoW h0 h1 hb) hl).1
  have h1:=hp.str;have h2:=hp.cks;have h3:=h.str;have h4:=h.cks
  dsimp only at h1 h2
  exact ⟨by rw [hp.ses];exact h.ses,by omega,by omega,fun c hc=>by rw [hp.ses];exact hp.cx c hc⟩
 ·exact h.mono (by omega)
theorem RpB.fold {i:Nat} (h0:1≤i) (h1:i≤255) (st:List Bytes):∀(l:List Ent) {b:Nat} {q:Sto},RpB i b q→b+l.length≤60000→RpB i (b+l.length) (l.foldl (stoE st) q)
 | [],b,q,h,_=>h
 |e::l,b,q,h,hb=>by
  rw [List.length_cons] at hb ⊢
  have:=RpB.fold h0 h1 st l (h.step h0 h1 (by omega) st e) (by omega)
  rw [show b+(l.length+1)=b+1+l.length by omega]
  exact this
def repK (st:List Bytes) (L:List Ses) (k:Nat):Sto:=(L.take k).foldl (stoS st) nilQ
theorem Xj8 (st:List Bytes) {L:List Ses} {k:Nat} (hk:k<L.length) {x:Ses} (hx:L[k]=x):repK st L (k+1)=stoS st (repK st L k) x:=by
 unfold repK
 rw [List.take_succ_eq_append_getElem hk,hx,List.foldl_append];rfl
theorem Xi1 (L:List Ses):repK (strsP L) L L.length=repQ L:=by unfold repK repQ;rw [List.take_length]
theorem ArcOk.rep {n m:Nat} {L:List Ses} (h:ArcOk n m L) (hn:n≤60000) (hm:m≤254) (st:List Bytes):∀k,k≤L.length→RpB k (pairs (L.take k)).length (repK st L k)
 |0,_=>Xur
 |k+1,hk=>by
  have ih:=h.rep hn hm st k (by omega)
  have hl:=h.len
  obtain ⟨x,hx⟩:∃x,L[k]=x:=⟨_,rfl⟩
  have hp:=Xez (show k<L.length by omega) hx
  have ht:=h.tot
  rw [Xj8 st (by omega) hx,stoS,(h.at_ (by omega) hx).num,(ih.begin (by omega)).1]
  have:=RpB.fold (i:=k+1) (by omega) (by omega) st x.ents (ih.begin (by omega)).2 (by omega)
  rw [Xom (by omega) hx]
  exact this
theorem ArcOk.repAll {n m:Nat} {L:List Ses} (h:ArcOk n m L) (hn:n≤60000) (hm:m≤254):RpB L.length n (repQ L):=by
 have:=h.rep hn hm (strsP L) L.length (Qn _)
 rw [Xi1,List.take_length] at this
 exact this.mono h.tot
theorem Xk0 (st:List Bytes) (k:Nat):∀ {l:List Xt} (out:Bytes),(∀x∈l,0≤x.s∧x.s≤(k:Nat))→k≤st.length→getG (st.take k) l out=getG st l out
 | [],_,_,_=>rfl
 |x::l,out,h,hk=>by
  have hx:=h x (List.mem_cons_self ..)
  have ih:=fun o=>Xk0 st k (l:=l) o (fun y hy=>h y (List.mem_cons_of_mem _ hy)) hk
  have h1:gBad (st.take k) x=gBad st x:=by
   unfold gBad
   rw [List.length_take,Qf (show ¬(((min k st.length:Nat):Int)<x.s) by omega),Qf (show ¬((st.length:Int)<x.s) by omega)]
  rw [getG,getG,h1]
  by_cases h0:x.s=0
  ·simp only [ih,h0]
   rfl
  ·have h2:strAtP (st.take k) x=strAtP st x:=by
    unfold strAtP
    rw [List.getD_eq_getElem?_getD,List.getD_eq_getElem?_getD,List.getElem?_take_of_lt (by omega)]
   simp only [ih,h2]
theorem Xqz (st:List Bytes) (k:Nat) {l:List Xt} (h:∀x∈l,0≤x.s∧x.s≤(k:Nat)) (hk:k≤st.length):getP (st.take k) l=getP st l:=Xk0 st k [] h hk
end Go.Proofs.YtkipnpjagcfcpaaGreatDoor
namespace Go.Proofs.YtkipnpjagcfcpaaGreatDoor
theorem Xud {L:List Ses} {date:Int} (h:begErr L date=0):L.length<255∧0≤date∧date≤1000000000∧lastDt L≤date:=by
 unfold begErr at h
 split at h
 ·omega
 ·split at h
  ·omega
  ·split at h
   ·omega
   ·omega
theorem Xml (L:List Ses):(lastDig L).length≤32:=by
 unfold lastDig
 split
 ·exact Nat.zero_le _
 ·exact Xb7 _
structure DrIn (L:List Ses) (d:Drf):Prop where
 num:d.num=(L.length:Nat)+1
 prev:d.prev=lastDig L
 last:lastDt L≤d.date
 ses:d.sto.ses=(L.length:Nat)+1
 str:d.sto.str.length≤14680064
 all:AllOk d.date (aftS nilS L) d.ents
 tree:d.tree=(runS (aftS nilS L) d.date d.ents).tree
 holds:actP d.holds d.date=actP (runS (aftS nilS L) d.date d.ents).holds d.date
 exts:∀e∈d.ents,e.exts.length≤1000
 xs:∀e∈d.ents,∀y∈e.exts,0≤y.s∧y.s≤(L.length:Nat)+1
theorem Xql (L:List Ses) {date:Int} (h:begErr L date=0):DrIn L (openP L date):=
 ⟨rfl,rfl,(Xud h).2.2.2,rfl,Nat.zero_le _,trivial,rfl,Xv5 _ _,fun _ h=>(by cases h),fun _ h=>(by cases h)⟩
theorem Xmg {n m:Nat} {L:List Ses} (h:ArcOk n m L) (hn:n≤60000) (hm:m≤254) {date:Int} (hb:begErr L date=0):DrOk n (openP L date):=by
 have hr:=h.repAll hn hm
 have hs:=h.sinAll
 have hbo:=Xud hb
 have hses:=hr.ses
 refine ⟨⟨⟨hs.ok.tree,hs.ok.holds.act date,hs.ok.tlen,Nat.le_trans (List.length_filter_le _ _) hs.ok.hlen⟩,hs.sml⟩,Nat.zero_le _,?_,?_,Nat.zero_le _,hr.cks,fun c hc=>⟨(hr.cx c hc).x,?_,(hr.cx c hc).d⟩,hbo.2.1,hbo.2.2.1⟩
 ·show (1:Int)≤(L.length:Nat)+1;omega
 ·show ((L.length:Nat):Int)+1≤255;omega
 ·have:=(hr.cx c hc).s
  show c.x.s≤((L.length:Nat):Int)+1
  omega
theorem Xwq {n:Nat} {L:List Ses} {d:Drf} (h:DrOk n d) (hn:n≤60000) (hi:DrIn L d) {c:Chg} (hc:c.content.length≤1000):DrIn L (addP d c).1:=by
 rcases Xe9 d c with ⟨_,e⟩|⟨_,h1,_,_,h4,h5,e⟩
 ·rw [e];exact hi
 ·have hb:=Xp8 (h.sto hn) (show c.content.length≤65536 by omega)
  have ht:d.stt=⟨(runS (aftS nilS L) d.date d.ents).tree,d.holds⟩:=by rw [←hi.tree];rfl
  obtain ⟨k1,k2⟩:=Xpl (t:=(runS (aftS nilS L) d.date d.ents).tree) hi.holds (recP d.sto c).1
  rw [←ht] at k1 k2
  have h5':(stpP (runS (aftS nilS L) d.date d.ents) (recP d.sto c).1 d.date).2=0:=by rw [h5] at k1;exact k1.symm
  have k3:=k2 h5'
  rw [e]
  have hrun:runS (aftS nilS L) d.date (d.ents++ [(recP d.sto c).1])=(stpP d.stt (recP d.sto c).1 d.date).1:=by rw [Xm6];exact k3.symm
  refine ⟨hi.num,hi.prev,hi.last,by show (recP d.sto c).2.ses=_;rw [hb.ses];exact hi.ses,h4,Xip hi.all h5',?_,?_,fun x hx=> ?_,fun x hx=> ?_⟩
  ·show _=(runS (aftS nilS L) d.date (d.ents++ [(recP d.sto c).1])).tree
   rw [hrun]
  ·show _=actP (runS (aftS nilS L) d.date (d.ents++ [(recP d.sto c).1])).holds d.date
   rw [hrun]
  ·rcases List.mem_append.1 hx with hx|hx
   ·exact hi.exts x hx
   ·rw [List.mem_singleton.1 hx];have:=hb.len;omega
  ·rcases List.mem_append.1 hx with hx|hx
   ·exact hi.xs x hx
   ·rw [List.mem_singleton.1 hx]
    intro y hy
    have hx0:=hb.xs y hy
    have hx1:=hb.x0 y hy
    rw [hi.ses] at hx1
    unfold XB at hx0
    exact ⟨hx0.1,hx1⟩
theorem Xny (d:Drf) (c:Chg):(addP d c).1.num=d.num∧(addP d c).1.date=d.date∧(addP d c).1.prev=d.prev∧(addP d c).1.ents.length≤d.ents.length+1:=by
 rcases Xe9 d c with ⟨_,e⟩|⟨_,_,_,_,_,_,e⟩
 ·rw [e];exact ⟨rfl,rfl,rfl,by omega⟩
 ·rw [e];exact ⟨rfl,rfl,rfl,by simp⟩
theorem Xjw {L:List Ses}:∀ {l:List Chg} {n:Nat} {d:Drf} (i:Nat),DrOk n d→n+l.length≤60000→DrIn L d→(∀c∈l,c.content.length≤1000)→
 DrOk (n+l.length) (addsP d i l).1∧DrIn L (addsP d i l).1∧(addsP d i l).1.date=d.date∧(addsP d i l).1.ents.length≤d.ents.length+l.length
 | [],n,d,i,h,_,hi,_=>⟨h,hi,rfl,Qn _⟩
 |c::l,n,d,i,h,hn,hi,hc=>by
  rw [List.length_cons] at hn
  have h1:=hc c (List.mem_cons_self ..)
  rw [addsP]
  split
  ·exact ⟨h.mono (by omega),hi,rfl,by simp⟩
  ·have ha:=Xue h (by omega) (show c.content.length≤65536 by omega)
   obtain ⟨r1,r2,r3,r4⟩:=Xjw (i+1) ha (by omega) (Xwq h (by omega) hi h1) (fun x hx=>hc x (List.mem_cons_of_mem _ hx))
   have hs:=Xny d c
   rw [List.length_cons]
   exact ⟨r1.mono (by omega),r2,r3.trans hs.2.1,by omega⟩
theorem Xwp {L:List Ses} {d:Drf} (hl:L.length<255) (hi:DrIn L d):appErr L (closeP d)=0:=by
 have h1:=hi.num;have h2:=hi.prev;have h3:=hi.last
 unfold appErr closeP
 dsimp only
 rw [if_neg (by omega),if_neg (by rintro (h|⟨_,h⟩)<;>omega),if_neg (by simpa using h2)]
theorem Xrm {n m:Nat} {L:List Ses} (h:ArcOk n m L) {d:Drf} (hi:DrIn L d) (hd:0≤d.date∧d.date≤1000000000):ArcOk (n+d.ents.length) (m+1) (L++ [closeP d]):=by
 refine ⟨by rw [List.length_append];have:=h.len;simp;omega,by rw [Xdj,List.length_append,Xfd];have:=h.tot;show _+d.ents.length≤_;omega,Xht h.all hi.all,fun i x hx=> ?_⟩
 by_cases hl:i<L.length
 ·rw [List.getElem?_append_left hl] at hx
  exact h.ses i x hx
 ·rw [List.getElem?_append_right (by omega)] at hx
  obtain ⟨e,hx⟩:i-L.length=0∧closeP d=x:=by
   cases hh:i-L.length with
   |zero=>rw [hh] at hx;exact ⟨rfl,by simpa using hx⟩
   |succ k=>rw [hh] at hx;simp at hx
  have hil:i=L.length:=by omega
  subst hx hil
  exact ⟨hi.num,hd,by show d.prev.length≤_;rw [hi.prev];exact Xml L,rfl,hi.str,hi.exts,hi.xs⟩
theorem Xpd {n m:Nat} {L:List Ses} (h:ArcOk n m L) {date:Int} {l:List Chg} (hn:n+l.length≤60000) (hm:m≤254) (hc:∀c∈l,c.content.length≤1000):ArcOk (n+l.length) (m+1) (wrtP L date l).1:=by
 unfold wrtP
 split
 ·exact h.mono (by omega) (by omega)
 ·rename_i hb
  have hb:begErr L date=0:=by omega
  split
  ·exact h.mono (by omega) (by omega)
  ·obtain ⟨r1,r2,r3,r4⟩:=Xjw 0 (Xmg h (by omega) hm hb) hn (Xql L hb) hc
   have:=Xrm h r2 r1.date
   refine this.mono ?_ (Qn _)
   have e:(openP L date).ents.length=0:=rfl
   omega
end Go.Proofs.YtkipnpjagcfcpaaGreatDoor
namespace Go.Proofs.YtkipnpjagcfcpaaGreatDoor
open Go.RowKit
abbrev chgCs (c:Chg) (va:Value):List Value:= [.int .i64 c.kind,S c.path,va,S c.target,S c.content]
abbrev chgV (c:Chg) (va:Value):Value:= .agg #[.int .i64 c.kind,S c.path,va,S c.target,S c.content]
def tChg:Ty Chg where
 size:=5
 rd:=fun I cs c=> ∃va,cs=chgCs c va∧RdS tAt I va c.attrs
 len:=fun ⟨_,h,_⟩=>by rw [h];rfl
 one:=fun ⟨va,h,h1⟩ u hu=>by
  rw [h] at hu
  simp at hu
  rcases hu with rfl|rfl|rfl|rfl|rfl<;>first|rfl|exact h1.one
 mono:=fun hI ⟨va,h,h1⟩=>⟨va,h,h1.mono hI⟩
structure ChgAt (w:World) (b o:Nat) (c:Chg) (va:Value):Prop where
 c0:w.cell? ⟨b,o,none⟩=some (.int .i64 c.kind)
 c1:w.cell? ⟨b,o+1,none⟩=some (S c.path)
 c2:w.cell? ⟨b,o+2,none⟩=some va
 c3:w.cell? ⟨b,o+3,none⟩=some (S c.target)
 c4:w.cell? ⟨b,o+4,none⟩=some (S c.content)
theorem Xwk {I:IH} {v:Value} {l:List Chg} {w:World} (h:RdS tChg I v l) (hw:Ok I w) (i:Nat) (hi:i<l.length):∃x va b off cap,l[i]=x∧v= .slice (some ⟨b,off,none⟩) l.length cap∧
 ChgAt w b (off+i*5) x va∧RdS tAt I va x.attrs:=by
 obtain ⟨b,off,cap,cs,hv,⟨va,hcs,h1⟩,hc⟩:=h.at_ hw hi
 subst hcs
 exact ⟨_,va,b,off,cap,rfl,hv,⟨hc 0 _ rfl,hc 1 _ rfl,hc 2 _ rfl,hc 3 _ rfl,hc 4 _ rfl⟩,h1⟩
structure ChgB (w:World) (n:Nat) (c:Chg) (va:Value):Prop where
 c0:w.cell? ⟨n,0,none⟩=some (.int .i64 c.kind)
 c1:w.cell? ⟨n,1,none⟩=some (S c.path)
 c2:w.cell? ⟨n,2,none⟩=some va
 c3:w.cell? ⟨n,3,none⟩=some (S c.target)
 c4:w.cell? ⟨n,4,none⟩=some (S c.content)
theorem ChgB.thru {w w':World} {b:Nat} {c:Chg} {va:Value} (h:ChgB w b c va) (hb:Below w.heap.size w w'):ChgB w' b c va:=
 ⟨Xaa hb h.c0,Xaa hb h.c1,Xaa hb h.c2,Xaa hb h.c3,Xaa hb h.c4⟩
theorem chgB_row {w:World} {b:Nat} {c:Chg} {va:Value} {t:TypeId} (h:w.heap[b]? =some (.cells #[.int .i64 c.kind,S c.path,va,S c.target,S c.content] t (0,0))):ChgB w b c va:=
 ⟨(cell_of_row _ _ 0 _ _ _ h).trans rfl,(cell_of_row _ _ 1 _ _ _ h).trans rfl,(cell_of_row _ _ 2 _ _ _ h).trans rfl,(cell_of_row _ _ 3 _ _ _ h).trans rfl,(cell_of_row _ _ 4 _ _ _ h).trans rfl⟩
structure Bat where
 date:Int
 chgs:List Chg
def tBat:Ty Bat where
 size:=2
 rd:=fun I cs b=> ∃vc,cs= [.int .i64 b.date,vc]∧RdS tChg I vc b.chgs
 len:=fun ⟨_,h,_⟩=>by rw [h];rfl
 one:=fun ⟨vc,h,h1⟩ u hu=>by
  rw [h] at hu
  simp at hu
  rcases hu with rfl|rfl<;>first|rfl|exact h1.one
 mono:=fun hI ⟨vc,h,h1⟩=>⟨vc,h,h1.mono hI⟩
def bigAt (x:At):Bool:=decide (80<x.k.length) || decide (80<x.v.length)
def bigC (c:Chg):Bool:=decide (250<c.path.length) || decide (250<c.target.length) || decide (20<c.attrs.length) || decide (600<c.content.length) || c.attrs.any bigAt
def totC (l:List Bat):Nat:=(l.map fun b=>b.chgs.length).sum
def gr39 (l:List Bat):Bool:=(l.any fun b=>b.chgs.any bigC) || decide (10<totC l) || decide (4<l.length)
def gr39I (l:List Bat):Int:=if gr39 l then 1 else 0
structure Chg.Sm (c:Chg):Prop where
 k0: -9223372036854775808≤c.kind
 k1:c.kind≤9223372036854775807
 path:c.path.length≤250
 target:c.target.length≤250
 nattrs:c.attrs.length≤20
 content:c.content.length≤600
 attrs:∀x∈c.attrs,x.k.length≤80∧x.v.length≤80
structure Chg.In (c:Chg):Prop where
 k0: -9223372036854775808≤c.kind
 k1:c.kind≤9223372036854775807
structure Bat.In (b:Bat):Prop where
 d0: -9223372036854775808≤b.date
 d1:b.date≤9223372036854775807
 chgs:∀c∈b.chgs,c.In
def wrtsP (L:List Ses) (l:List Bat):List Ses:=l.foldl (fun L b=>(wrtP L b.date b.chgs).1) L
end Go.Proofs.YtkipnpjagcfcpaaGreatDoor
namespace Go.Proofs
open Go.Shelf
def Tryz.lays283_ren:Go.Shelf.Ren:=⟨fun|283=>240|n=>n,fun|3=>3|9=>9|4=>4|n=>n,fun|n=>n⟩
theorem Tryz.lays283:Go.Proofs.Lays.n283 Tryz.prog Tryz.lays283_ren:= {
 mixed:=by kernel_rfl
 f283:=Tryz.func240.trans (congrArg some (by kernel_rfl))
 t3:=Tryz.underlying3
 a3:=Tryz.isAgg3
 z3:=Tryz.sizeOf3
 v3:=Tryz.zeroValue3
 t4:=Tryz.underlying4
 a4:=Tryz.isAgg4
 z4:=Tryz.sizeOf4
 v4:=Tryz.zeroValue4
 t9:=Tryz.underlying9
 a9:=Tryz.isAgg9
 z9:=Tryz.sizeOf9
 v9:=Tryz.zeroValue9 }
open Go.Lib in
theorem Tryz.internal_strconv_small (i:Nat) (h:i<100) (w:World):
 Calls Tryz.prog 240 #[.int .i64 i] w fun e w'=>e= .returned (.string ⟨(Lib.decDigits i).toArray⟩)∧w'=w:=Any.internal_strconv_small Tryz.lays283 i h w
def Tryz.laysM284_ren:Go.Shelf.Ren:=⟨fun|284=>241|129=>280|317=>279|318=>281|n=>n,fun|53=>23|3=>3|212=>317|0=>0|4=>4|46=>173|5=>5|9=>9|n=>n,fun|17=>3|n=>n⟩
theorem Tryz.laysM284:Go.Proofs.LaysM.n284 Tryz.prog Tryz.laysM284_ren:= {
 mixed:=by kernel_rfl
 f129:=Tryz.func280.trans (congrArg some (by kernel_rfl))
 f284:=Tryz.func241.trans (congrArg some (by kernel_rfl))
 f317:=Tryz.func279.trans (congrArg some (by kernel_rfl))
 f318:=Tryz.func281.trans (congrArg some (by kernel_rfl))
 t0:=Tryz.underlying0
 a0:=Tryz.isAgg0
 z0:=Tryz.sizeOf0
 v0:=Tryz.zeroValue0
 t3:=Tryz.underlying3
 a3:=Tryz.isAgg3
 z3:=Tryz.sizeOf3
 v3:=Tryz.zeroValue3
 t4:=Tryz.underlying4
 a4:=Tryz.isAgg4
 z4:=Tryz.sizeOf4
 v4:=Tryz.zeroValue4
 t5:=Tryz.underlying5
 a5:=Tryz.isAgg5
 z5:=Tryz.sizeOf5
 v5:=Tryz.zeroValue5
 t9:=Tryz.underlying9
 a9:=Tryz.isAgg9
 z9:=Tryz.sizeOf9
 v9:=Tryz.zeroValue9
 t46:=Tryz.underlying173
 a46:=Tryz.isAgg173
 z46:=Tryz.sizeOf173
 v46:=Tryz.zeroValue173
 t53:=Tryz.underlying23
 a53:=Tryz.isAgg23
 z53:=Tryz.sizeOf23
 v53:=Tryz.zeroValue23
 t212:=Tryz.underlying317
 a212:=Tryz.isAgg317
 z212:=Tryz.sizeOf317
 v212:=Tryz.zeroValue317
 g17:=by kernel_rfl
 i0:=by kernel_rfl
 i3:=by kernel_rfl
 i4:=by kernel_rfl
 i5:=by kernel_rfl
 i9:=by kernel_rfl
 i46:=by kernel_rfl
 i53:=by kernel_rfl
 i212:=by kernel_rfl
 m17:=by kernel_rfl }
open Go.Lib in
theorem Tryz.internal_strconv_numDigits (u : Nat) (h1 : 1 ≤ u) (h2 : u < 18446744073709551616) (w : World) (htab : Lib.TabIs Tryz.prog w "internal/strconv.uint64pow10" .u64 Lib.pow10Tab) :
 Calls Tryz.prog 241 #[.int .u64 u] w fun e w'=>e= .returned (.int .i64 (Lib.nDigits u))∧w'=w:=Any.internal_strconv_numDigits Tryz.laysM284 u h1 h2 w htab
def Tryz.lays285_ren:Go.Shelf.Ren:=⟨fun|285=>242|n=>n,fun|37=>69|53=>23|3=>3|4=>4|51=>41|9=>9|5=>5|0=>0|n=>n,fun|n=>n⟩
theorem Tryz.lays285:Go.Proofs.Lays.n285 Tryz.prog Tryz.lays285_ren:= {
 mixed:=by kernel_rfl
 f285:=Tryz.func242.trans (congrArg some (by kernel_rfl))
 t0:=Tryz.underlying0
 a0:=Tryz.isAgg0
 z0:=Tryz.sizeOf0
 v0:=Tryz.zeroValue0
 t3:=Tryz.underlying3
 a3:=Tryz.isAgg3
 z3:=Tryz.sizeOf3
 v3:=Tryz.zeroValue3
 t4:=Tryz.underlying4
 a4:=Tryz.isAgg4
 z4:=Tryz.sizeOf4
 v4:=Tryz.zeroValue4
 t5:=Tryz.underlying5
 a5:=Tryz.isAgg5
 z5:=Tryz.sizeOf5
 v5:=Tryz.zeroValue5
 t9:=Tryz.underlying9
 a9:=Tryz.isAgg9
 z9:=Tryz.sizeOf9
 v9:=Tryz.zeroValue9
 t37:=Tryz.underlying69
 a37:=Tryz.isAgg69
 z37:=Tryz.sizeOf69
 v37:=Tryz.zeroValue69
 t51:=Tryz.underlying41
 a51:=Tryz.isAgg41
 z51:=Tryz.sizeOf41
 v51:=Tryz.zeroValue41
 t53:=Tryz.underlying23
 a53:=Tryz.isAgg23
 z53:=Tryz.sizeOf23
 v53:=Tryz.zeroValue23 }
open Go.RowKit Go.Sort Go.Lib in
theorem Tryz.internal_strconv_formatBase10 (blk off cap:Nat) (u:Nat) (d:Array UInt8) (w:World) (hH:Holds (fun (b:UInt8)=>Value.int .u8 (b.toNat:Int)) w blk off d) (hu:u<10 ^ d.size) (hu64:u<18446744073709551616) (hsz:d.size<4611686018427387904):
 Calls Tryz.prog 242 #[.slice (some ⟨blk,off,none⟩) d.size cap,.int .u64 u] w fun e w'=>
  e= .returned (.tuple #[])∧ ∃(n v':Nat) (dk:Array UInt8),w'=(putRow (fun (b:UInt8)=>Value.int .u8 (b.toNat:Int)) w blk off dk).drewN n∧FmtInv d.size u 0 v' dk:=Any.internal_strconv_formatBase10 Tryz.lays285 blk off cap u d w hH hu hu64 hsz
end Go.Proofs
namespace Go.Proofs.YtkipnpjagcfcpaaGreatDoor
open Go.RowKit Go.Sort
open Go.Lib (repeatL decDigits decDigits_length repeatL_length nDigits nDigits_small nDigits_big decDigits_one)
def refDigits:Nat→Nat→Bytes→Bytes
 |0,_,s=>s
 |w+1,n,s=>refDigits w (n / 10) ((48+UInt8.ofNat (n%10))::s)
theorem Xd8:∀(w:Nat) (s:Bytes),refDigits w 0 s=List.replicate w 48++s
 |0,_=>rfl
 |w+1,s=>by
  rw [refDigits,Nat.zero_div,Xd8 w,List.replicate_succ',List.append_assoc]
  rfl
theorem digit_eq (n:Nat):(48:UInt8)+UInt8.ofNat n=UInt8.ofNat (48+n):=by
 rw [UInt8.ofNat_add];rfl
theorem Xfo:∀(w n:Nat) (s:Bytes),n<10 ^ w→1≤w→refDigits w n s=List.replicate (w-nDigits n) 48++decDigits n++s
 |0,_,_,_,h=>by omega
 |w+1,n,s,hn,_=>by
  rw [refDigits,digit_eq]
  by_cases h:n<10
  ·rw [show n / 10=0 by omega,Xd8,nDigits_small h,decDigits_one h,show n%10=n by omega]
   simp
  ·rw [Nat.pow_succ] at hn
   have hw:1≤w:=by
    rcases Nat.eq_zero_or_pos w with h0|h0
    ·subst h0;simp at hn;omega
    ·exact h0
   rw [Xfo w (n / 10) _ (by omega) hw,nDigits_big h]
   rw [decDigits.eq_def n,dif_neg h]
   simp
theorem Xbs:∀(w n:Nat) (s:Bytes),(refDigits w n s).length=w+s.length
 |0,_,_=>by simp [refDigits]
 |w+1,n,s=>by rw [refDigits,Xbs w];simp;omega
theorem Xqh (n w:Nat) (hn:n<10 ^ w) (hw:1≤w):repeatL [48] (w-(decDigits n).length)++decDigits n=refDigits w n []:=by
 rw [Xfo w n [] hn hw,repeatL_one,decDigits_length,List.append_nil]
set_option maxRecDepth 100000 in
set_option maxHeartbeats 400000 in
theorem Xj9 (n m:Nat) (hn:n≤9223372036854775807) (hm:m≤100) (w:World):
 Calls Tryz.prog 148 #[.int .i64 n,.int .i64 m] w fun e w'=>e= .returned (S (refDigits m n []))∧Below w.heap.size w w':=by
 have kc:=Xri (P:=Tryz.prog) 69 9 5 Tryz.underlying69 Tryz.underlying5 Tryz.underlying9
 go_enter Tryz.func148,Tryz.ntmps148
 go_wp2
 go_loopw [0,5,6] (fun s0 s5 s6 wr=> ∃k q:Nat,∃s:Bytes,k≤m∧s0= .int .i64 q∧q≤9223372036854775807∧s5=S s∧s.length≤k∧s6= .int .i64 k∧refDigits (m-k) q s=refDigits m n []∧Below w.heap.size w wr) (fun _ _ i _=>m-(intOf i).toNat)
 case atStart=>exact ⟨0,n,[],by omega,rfl,hn,rfl,Qn _,rfl,rfl,Qb _ _⟩
 case round=>
  obtain ⟨k,q,s,hk,rfl,hq,rfl,hs,rfl,hr,hb⟩:=hrel
  have Hr:=Qh hr;clear hr
  by_cases hlt:k<m
  ·go_wp2
   go_roundw
   case rel=>
    refine ⟨k+1,q / 10,(48+UInt8.ofNat (q%10))::s,by omega,by go_num,by omega,rfl,by simp;omega,by go_num,?_,(hb.alloc hb.size _)⟩
    rw [←Hr.out,show m-k=(m-(k+1))+1 by omega];rfl
   case measure=>simp [intOf];omega
  ·go_wp2
   go_ret
   refine ⟨Xfy ?_,hb⟩
   rw [←Hr.out,show m-k=0 by omega];rfl
theorem Xi3 (n m:Int) (w:World) (h0:0≤n) (hn:n≤9223372036854775807) (m0:0≤m) (hm:m≤100):
 Calls Tryz.prog 148 #[.int .i64 n,.int .i64 m] w fun e w'=>e= .returned (S (refDigits m.toNat n.toNat []))∧Below w.heap.size w w':=by
 obtain ⟨n,rfl⟩:=Int.eq_ofNat_of_zero_le h0
 obtain ⟨m,rfl⟩:=Int.eq_ofNat_of_zero_le m0
 exact Xj9 n m (by omega) (by omega) w
structure Rec where
 a:Nat
 s:Int
 d:Bytes
deriving DecidableEq
def Rec.Wf (r:Rec):Prop:=r.a<4294967296∧ -9223372036854775808≤r.s∧r.s≤9223372036854775807∧r.d.length≤9223372036854775807
abbrev Rec.cs (r:Rec):List Value:= [.int .u32 r.a,.int .i64 r.s,S r.d]
abbrev Rec.v (r:Rec):Value:= .agg #[.int .u32 r.a,.int .i64 r.s,S r.d]
def tRec:Ty Rec:=Ty.flat 3 Rec.cs (fun _=>rfl) (fun _ u h=>by simp at h;rcases h with rfl|rfl|rfl<;>rfl)
theorem recAt {I:IH} {v:Value} {l:List Rec} {w:World} (h:RdS tRec I v l) (hw:Ok I w) (i:Nat) (hi:i<l.length):∃r b off cap,l[i]=r∧v= .slice (some ⟨b,off,none⟩) l.length cap∧
 w.cell? ⟨b,off+i*3,none⟩=some (.int .u32 r.a)∧w.cell? ⟨b,off+i*3+1,none⟩=some (.int .i64 r.s)∧w.cell? ⟨b,off+i*3+2,none⟩=some (S r.d):=by
 obtain ⟨b,off,cap,cs,hv,hcs,hc⟩:=h.at_ hw hi
 have hcs':cs=l[i].cs:=hcs
 subst hcs'
 exact ⟨_,b,off,cap,rfl,hv,hc 0 _ rfl,hc 1 _ rfl,hc 2 _ rfl⟩
def recValid (r:Rec):Int:=if r.s<1∨255<r.s then 2 else if r.d.length≠32 then 1 else 0
set_option maxRecDepth 100000 in
set_option maxHeartbeats 400000 in
theorem Xed (r:Rec) (hr:r.Wf) (w:World):
 Calls Tryz.prog 88 #[r.v] w fun e w'=>e= .returned (.int .i64 (recValid r))∧Below w.heap.size w w':=by
 obtain ⟨a,s,d⟩:=r
 obtain ⟨h1,h2,h3,h4⟩:=hr
 go_enter Tryz.func88,Tryz.ntmps88
 go_wp2
 all_goals go_ret
 all_goals refine ⟨Xag ?_,(Qb _ _).alloc (Qn _) _⟩
 all_goals simp_all [recValid]
 all_goals omega
set_option maxRecDepth 100000 in
set_option maxHeartbeats 400000 in
theorem Xe6 (r:Rec) (hr:r.Wf) (w:World):
 Calls Tryz.prog 68 #[r.v] w fun e w'=>e= .returned (.int .i64 (recValid r))∧Below w.heap.size w w':=by
 obtain ⟨a,s,d⟩:=r
 obtain ⟨h1,h2,h3,h4⟩:=hr
 go_enter Tryz.func68,Tryz.ntmps68
 go_wp2
 all_goals go_ret
 all_goals refine ⟨Xag ?_,(Qb _ _).alloc (Qn _) _⟩
 all_goals simp_all [recValid]
 all_goals omega
def recKey (r:Rec):Bytes:=if recValid r=0 then refDigits 10 r.a []++45::refDigits 3 r.s.toNat [] else []
set_option maxRecDepth 100000 in
set_option maxHeartbeats 400000 in
theorem Xb3 (r:Rec) (hr:r.Wf) (w:World):
 Calls Tryz.prog 89 #[r.v] w fun e w'=>e= .returned (S (recKey r))∧Below w.heap.size w w':=by
 have hv:=fun w=>Xed r hr w
 by_cases h0:recValid r=0
 ·obtain ⟨a,s,d⟩:=r
  obtain ⟨h1,h2,h3,h4⟩:=hr
  have hs:1≤s∧s≤255:=by simp only [recValid] at h0;split at h0<;>simp_all<;>omega
  obtain ⟨hs1,hs2⟩:=hs
  obtain ⟨q,rfl⟩:=Int.eq_ofNat_of_zero_le (a:=s) (by omega)
  have hk:recKey ⟨a,q,d⟩=refDigits 10 a []++45::refDigits 3 q []:=by simp [recKey,h0]
  have hl1:(refDigits 10 a []).length≤10:=by simp [refDigits]
  have hl2:(refDigits 3 q []).length≤3:=by simp [refDigits]
  rw [h0] at hv
  have hv':=Qh hv;clear hv
  have hk':=Qh hk;clear hk h0
  go_enter Tryz.func89,Tryz.ntmps89
  go_wp2_with (go_at_call 88;refine (hv'.out _).mono ?_;rintro e w' ⟨rfl,hb⟩)
  have hc0:w'.cell? ⟨w.heap.size,0,none⟩=some (.int .u32 a):=by rw [hb.cell (by simp)];simp
  have hc1:w'.cell? ⟨w.heap.size,1,none⟩=some (.int .i64 q):=by rw [hb.cell (by simp)];simp
  have hg0:=cell_regrown hc0
  have hg1:=cell_regrown hc1
  have hw:IntKind.i64.wrap (a:Int)=a:=IntWalk.i64_in _ (by omega)
  refine wp_region_quiet_below (by kernel_rfl) (by kernel_rfl) ?_
  repeat (go_big_quiet_step ((with_reducible exact Calls.regrown_of (Xi3 _ _ _ (by omega) (by omega) (by omega) (by omega)))))
  refine wpQuiet_nil ?_
  intro w2 hwq
  have hbq:Below (w').heap.size (w') w2:=by
   obtain ⟨pq,rfl⟩:=hwq
   exact below_regrown _ _ _
  clear hwq
  go_wp2
  go_ret
  refine ⟨Xfy ?_,?_⟩
  ·rw [hk'.out]
  ·exact ((Qb _ _).alloc (Qn _) _).trans ((hb.mono (by simp)).trans (hbq.mono (by have:=hb.size;simp at this;omega)))
 ·obtain ⟨a,s,d⟩:=r
  obtain ⟨h1,h2,h3,h4⟩:=hr
  generalize hq:recValid ⟨a,s,d⟩=q at*
  have hq':=Qh hq;clear hq
  have hv':=Qh hv;clear hv
  have hn:(q != 0)=true:=by simpa using h0
  go_enter Tryz.func89,Tryz.ntmps89
  go_wp2_with (go_at_call 88;refine (hv'.out _).mono ?_;rintro e w' ⟨rfl,hb⟩)
  go_ret
  exact ⟨Xfy (by simp [recKey,hq'.out,h0]),((Qb _ _).alloc (Qn _) _).trans (hb.mono (by simp))⟩
theorem Xia {W w1:World} {n:Nat} {r:Rec} {T:TypeId} (hn:n=W.heap.size) (hb:Below (W.alloc (.cells #[.int .u32 r.a,.int .i64 r.s,S r.d] T)).heap.size (W.alloc (.cells #[.int .u32 r.a,.int .i64 r.s,S r.d] T)) w1):
 w1.cell? ⟨n,0,none⟩=some (.int .u32 r.a)∧w1.cell? ⟨n,1,none⟩=some (.int .i64 r.s)∧w1.cell? ⟨n,2,none⟩=some (S r.d):=by
 subst hn
 refine ⟨?_,?_,?_⟩<;>(rw [hb.cell (by simp)];simp)
def recCheckFrom:Option Rec→List Rec→Int
 |_,[]=>0
 |p,r::l=>if recValid r≠0 then recValid r else if (p.any fun p=> !(Op.bytesLess (recKey p) (recKey r))) then 14 else recCheckFrom (some r) l
def recCheck (l:List Rec):Int:=recCheckFrom none l
set_option maxHeartbeats 3000000 in
set_option maxRecDepth 100000 in
theorem Xfh (I:IH) (hI:Glob I) (u:Nat) (hu64:u<18446744073709551616) (w:World) (hw:Ok I w):
 Calls Tryz.prog 187 #[.int .u64 u,.int .i64 10] w fun e w'=>e= .returned (S (decDigits u))∧Below w.heap.size w w':=by
 have htab:=hI.tab hw
 by_cases hs:u<100
 ·go_enter Tryz.func187,Tryz.ntmps187
  go_wp2_with (go_at_call 240;refine (Tryz.internal_strconv_small u hs _).mono ?_;rintro e w' ⟨rfl,rfl⟩)
  go_ret
  exact ⟨rfl,Qb _ _⟩
 ·have hu1:1≤u:=by omega
  have hnd20:Lib.nDigits u≤20:=by have:=Lib.numDigits_eq u hu1 hu64;split at this<;>omega
  have hb3:Lib.nDigits u≤24:=by omega
  have hal:Tryz.prog.arrayLen 278=24:=by simp [Program.arrayLen,Tryz.underlying278]
  have hsl1:∀W,(Instr.sliceAt 278 (.pointer (some ⟨w.heap.size,0,none⟩)) none (some (.int .i64 (Lib.nDigits u:Int))) none).run Tryz.prog W= .ok (.slice (some ⟨w.heap.size,0,none⟩) (Lib.nDigits u) 24) W:=fun W=>by
   rw [run_sliceAt_array_h W 278 ⟨w.heap.size,0,none⟩ (by simp [Program.arrayLen,Program.elem,Tryz.underlying278]) .i64 (Lib.nDigits u:Int) (by omega) (by rw [hal];omega)]
   go_simp
  have hH0:=Lib.holds_zero0 w 278 (Lib.nDigits u) (by omega)
  have hfmt:=Tryz.internal_strconv_formatBase10 w.heap.size 0 24 u (Array.replicate (Lib.nDigits u) 0) (w.alloc (.cells Lib.zeros24 278)) hH0 (by rw [Array.size_replicate];exact Lib.lt_pow_nDigits u) hu64 (by rw [Array.size_replicate];omega)
  rw [Array.size_replicate] at hfmt
  have HH0:=Qh hH0
  have Htab:=Qh htab
  clear hH0 hal htab
  go_enter Tryz.func187,Tryz.ntmps187
  go_wp2_with (go_at_call 241;refine (Tryz.internal_strconv_numDigits u hu1 hu64 _ (Lib.tabIs_alloc Htab.out _)).mono ?_;rintro e w' ⟨rfl,rfl⟩)
  refine hfmt.mono ?_
  rintro e w' ⟨rfl,k,v',dk,rfl,hF⟩
  have hcv:(convert 69 9 (.slice (some ⟨w.heap.size,0,none⟩) (Lib.nDigits u) 24)).run Tryz.prog ((putRow (fun (b:UInt8)=>Value.int .u8 (b.toNat:Int)) (w.alloc (.cells Lib.zeros24 278)) w.heap.size 0 dk).drewN k)= .ok (.string ⟨(Lib.decDigits u).toArray⟩) ((putRow (fun (b:UInt8)=>Value.int .u8 (b.toNat:Int)) (w.alloc (.cells Lib.zeros24 278)) w.heap.size 0 dk).drewN k):=by
   have h:=run_convert_bytes_back (P:=Tryz.prog) ((putRow (fun (b:UInt8)=>Value.int .u8 (b.toNat:Int)) (w.alloc (.cells Lib.zeros24 278)) w.heap.size 0 dk).drewN k) 69 9 5 ⟨w.heap.size,0,none⟩ 24 (Lib.decDigits u) Tryz.underlying69 Tryz.underlying5 Tryz.underlying9 (fun j hj=>by
    rw [Lib.row_is_numeral hF j hj,Lib.add_plain,World.cell?_drewN]
    exact cell?_putRow (fun (b:UInt8)=>Value.int .u8 (b.toNat:Int)) _ w.heap.size 0 _ dk HH0.out (by rw [hF.size,Array.size_replicate]) j (by rw [hF.size];rw [Lib.decDigits_length] at hj;exact hj))
   rw [Lib.decDigits_length] at h
   exact h
  go_wp2
  go_ret
  obtain ⟨os,eo⟩:=Lib.fin_at w (.cells Lib.zeros24 278) dk k 0
  refine ⟨rfl,?_⟩
  rw [eo]
  exact Lib.below_grow _ _ (Qn _) _ _
set_option maxRecDepth 100000 in
theorem Xh2 (I:IH) (hI:Glob I) (u:Int) (w:World) (hw:Ok I w) (h0:0≤u) (hu:u<18446744073709551616):
 Calls Tryz.prog 126 #[.int .u64 u,.int .i64 10] w fun e w'=>e= .returned (S (decDigits u.toNat))∧Below w.heap.size w w':=by
 obtain ⟨u,rfl⟩:=Int.eq_ofNat_of_zero_le h0
 go_enter Tryz.func126,Tryz.ntmps126
 go_wp2_with (go_at_call 187;refine (Xfh I hI u (by omega) _ hw).mono ?_;rintro e w' ⟨rfl,hb⟩)
 go_ret
 exact ⟨rfl,hb⟩
set_option maxRecDepth 100000 in
set_option maxHeartbeats 400000 in
theorem Xo5 (I:IH) (hI:Glob I) (n m:Int) (w:World) (hw:Ok I w) (h0:0≤n) (hn:n<4294967296) (m0:0≤m) (hm:m≤100):
 Calls Tryz.prog 72 #[.int .u64 n,.int .i64 m] w fun e w'=>e= .returned (S (repeatL [48] (m.toNat-(decDigits n.toNat).length)++decDigits n.toNat))∧Below w.heap.size w w':=by
 have hl:(decDigits n.toNat).length≤10:=by rw [decDigits_length];exact Xff _ _ (by omega) (by omega)
 go_enter Tryz.func72,Tryz.ntmps72
 go_wp2_with fail
 refine (Xh2 I hI _ _ hw h0 (by omega)).mono ?_
 rintro e w1 ⟨rfl,hb1⟩
 go_wp2_with fail
 refine (Xif [48] _ _ (by omega) (by omega) (by simp;omega)).mono ?_
 rintro e w2 ⟨rfl,hb2⟩
 have hrl:(repeatL [48] (max 0 (m-((decDigits n.toNat).length:Int))).toNat).length≤100:=by rw [repeatL_length];simp;omega
 go_wp2
 go_ret
 exact ⟨Xfy (by rw [show (max 0 (m-((decDigits n.toNat).length:Int))).toNat=m.toNat-(decDigits n.toNat).length by omega]),hb1.trans (hb2.mono hb1.size)⟩
theorem Xmu (I:IH) (hI:Glob I) (n m:Int) (w:World) (hw:Ok I w) (h0:0≤n) (hn:n<4294967296) (m0:1≤m) (hm:m≤100) (hp:n.toNat<10 ^ m.toNat):
 Calls Tryz.prog 72 #[.int .u64 n,.int .i64 m] w fun e w'=>e= .returned (S (refDigits m.toNat n.toNat []))∧Below w.heap.size w w':=by
 rw [←Xqh _ _ hp (by omega)]
 exact Xo5 I hI n m w hw h0 hn (by omega) hm
set_option maxRecDepth 100000 in
set_option maxHeartbeats 400000 in
theorem Xdb (I:IH) (hI:Glob I) (r:Rec) (hr:r.Wf) (w:World) (hw:Ok I w):
 Calls Tryz.prog 36 #[r.v] w fun e w'=>e= .returned (S (recKey r))∧Below w.heap.size w w':=by
 have hv:=fun w=>Xe6 r hr w
 by_cases h0:recValid r=0
 ·obtain ⟨a,s,d⟩:=r
  obtain ⟨h1,h2,h3,h4⟩:=hr
  have hs:1≤s∧s≤255:=by simp only [recValid] at h0;split at h0<;>simp_all<;>omega
  obtain ⟨hs1,hs2⟩:=hs
  obtain ⟨q,rfl⟩:=Int.eq_ofNat_of_zero_le (a:=s) (by omega)
  have hk:recKey ⟨a,q,d⟩=refDigits 10 a []++45::refDigits 3 q []:=by simp [recKey,h0]
  have hl1:(refDigits 10 a []).length≤10:=by simp [Xbs]
  have hl2:(refDigits 3 q []).length≤3:=by simp [Xbs]
  rw [h0] at hv
  have hv':=Qh hv;clear hv
  have hk':=Qh hk;clear hk h0
  go_enter Tryz.func36,Tryz.ntmps36
  go_wp2_with (go_at_call 68;refine (hv'.out _).mono ?_;rintro e w' ⟨rfl,hb⟩)
  have hc0:w'.cell? ⟨w.heap.size,0,none⟩=some (.int .u32 a):=by rw [hb.cell (by simp)];simp
  have hc1:w'.cell? ⟨w.heap.size,1,none⟩=some (.int .i64 q):=by rw [hb.cell (by simp)];simp
  have hg0:=cell_regrown hc0
  have hg1:=cell_regrown hc1
  have hw0:IntKind.u64.wrap (a:Int)=a:=IntWalk.u64_in _ (by omega)
  have hw1:IntKind.u64.wrap (q:Int)=q:=IntWalk.u64_in _ (by omega)
  have hok:Ok I w':=(hw.alloc _).below (Qn _) hb
  refine wp_region_quiet_below (by kernel_rfl) (by kernel_rfl) ?_
  repeat (go_big_quiet_step ((with_reducible exact Calls.regrown_of (Xmu I hI _ _ _ (hok.below (Qn _) (below_regrown _ _ _)) (by omega) (by omega) (by omega) (by omega) (by simp;omega)))))
  refine wpQuiet_nil ?_
  intro w2 hwq
  have hbq:Below (w').heap.size (w') w2:=by
   obtain ⟨pq,rfl⟩:=hwq
   exact below_regrown _ _ _
  clear hwq
  go_wp2
  go_ret
  refine ⟨Xfy ?_,?_⟩
  ·rw [hk'.out]
  ·exact ((Qb _ _).alloc (Qn _) _).trans ((hb.mono (by simp)).trans (hbq.mono (by have:=hb.size;simp at this;omega)))
 ·obtain ⟨a,s,d⟩:=r
  obtain ⟨h1,h2,h3,h4⟩:=hr
  generalize hq:recValid ⟨a,s,d⟩=q at*
  have hq':=Qh hq;clear hq
  have hv':=Qh hv;clear hv
  have hn:(q != 0)=true:=by simpa using h0
  go_enter Tryz.func36,Tryz.ntmps36
  go_wp2_with (go_at_call 68;refine (hv'.out _).mono ?_;rintro e w' ⟨rfl,hb⟩)
  go_ret
  exact ⟨Xfy (by simp [recKey,hq'.out,h0]),((Qb _ _).alloc (Qn _) _).trans (hb.mono (by simp))⟩
set_option maxRecDepth 100000 in
set_option maxHeartbeats 400000 in
theorem Xrq (I:IH) (hI:Glob I) (v:Value) (l:List Rec) (hv:RdS tRec I v l) (hl:∀r∈l,r.Wf) (w:World) (hw:Ok I w):
 Calls Tryz.prog 37 #[v] w fun e w'=>e= .returned (.int .i64 (recCheck l))∧Below w.heap.size w w':=by
 have hlen:=hv.len_le
 obtain ⟨ao,cap,rfl,hcap,hcm,_⟩:=id hv
 have Hv:=Qh hv;clear hv
 have Hl:=Qh hl;clear hl
 go_enter Tryz.func37,Tryz.ntmps37
 go_wp2
 go_loopw [8] (fun s8 wr=> ∃k:Nat,k≤l.length∧s8= .int .i64 k∧recCheckFrom (if k=0 then none else l[k-1]?) (l.drop k)=recCheck l∧Below w.heap.size w wr) (fun i _=>l.length-(intOf i).toNat)
 case atStart=>exact ⟨0,Nat.zero_le _,rfl,rfl,Qb _ _⟩
 case round=>
  obtain ⟨k,hk,rfl,hr,hb⟩:=hrel
  have Hr:=Qh hr;clear hr
  by_cases hlt:k<l.length
  ·have hwr:Ok I wr:=hw.below (Qn _) hb
   obtain ⟨r,b,off,cap',hlr,hvv,hc0,hc1,hc2⟩:=recAt Hv.out hwr k hlt
   cases hvv
   have Hlr:=Qh hlr;clear hlr
   have hrw:r.Wf:=Hl.out r (by rw [←Hlr.out];exact List.getElem_mem hlt)
   have hst:recCheck l=if recValid r≠0 then recValid r else if ((if k=0 then none else l[k-1]?).any fun p=> !(Op.bytesLess (recKey p) (recKey r))) then 14 else recCheckFrom (some r) (l.drop (k+1)):=by
    rw [←Hr.out,List.drop_eq_getElem_cons hlt,Hlr.out];rfl
   have Hst:=Qh hst;clear hst
   have hkr:l[k]? =some r:=by rw [List.getElem?_eq_getElem hlt,Hlr.out]
   have Hkr:=Qh hkr;clear hkr
   have Hrw:=Qh hrw;clear hrw
   go_wp2_with fail
   refine (Xe6 r Hrw.out _).mono ?_
   rintro e w1 ⟨rfl,hb1⟩
   obtain ⟨hx0,hx1,hx2⟩:=Xia rfl hb1
   have hb1':Below w.heap.size w w1:=hb.trans (Below.trans ((Qb _ _).alloc hb.size _) (hb1.mono (by simp;have:=hb.size;omega)))
   by_cases h0:recValid r=0
   ·rw [h0]
    have hw1:Ok I w1:=hw.below (Qn _) hb1'
    by_cases hk0:k=0
    ·have hd:decide (0<k)=false:=by simp;omega
     go_wp2_with fail
     refine wp_region_quiet_below (by kernel_rfl) (by kernel_rfl) ?_
     repeat (go_big_quiet_step ((fail)))
     refine wpQuiet_nil ?_
     intro w2 hwq
     have hb2:Below (w1).heap.size (w1) w2:=by
      obtain ⟨pq,rfl⟩:=hwq
      exact below_regrown _ _ _
     clear hwq
     go_wp2
     go_roundw
     case rel=>exact ⟨k+1,by omega,by go_num,(by rw [Hst.out,h0];subst hk0;simp [show l[0]? =some r from Hkr.out]),hb1'.trans (hb2.mono hb1'.size)⟩
     case measure=>simp [intOf];omega
    ·obtain ⟨p,b',off',cap'',hlp,hvv,hp0,hp1,hp2⟩:=recAt Hv.out hw1 (k-1) (by omega)
     cases hvv
     have Hlp:=Qh hlp;clear hlp
     have Hkp:=Qh (show l[k-1]? =some p by rw [List.getElem?_eq_getElem (by omega),Hlp.out])
     have hg0:=cell_regrown hp0
     have hg1:=cell_regrown hp1
     have hg2:=cell_regrown hp2
     have hy0:=cell_regrown hx0
     have hy1:=cell_regrown hx1
     have hy2:=cell_regrown hx2
     have hd:decide (0<k)=true:=by simp;omega
     have hi:IntKind.i64.wrap ((k:Int)-1)=(k:Int)-1:=IntWalk.i64_in _ (by omega)
     have hj:0≤(k:Int)-1:=by omega
     have hm:((k:Int)-1).toNat=k-1:=by omega
     go_wp2_with fail
     refine wp_region_quiet_below (by kernel_rfl) (by kernel_rfl) ?_
     repeat (go_big_quiet_step ((with_reducible first|exact Calls.regrown_of (Xdb I hI p (Hl.out p (by rw [←Hlp.out];exact List.getElem_mem _)) _ (hw1.below (Qn _) (below_regrown _ _ _)))|exact Calls.regrown_of (Xdb I hI r Hrw.out _ (hw1.below (Qn _) (below_regrown _ _ _))))))
     refine wpQuiet_nil ?_
     intro w2 hwq
     have hb2:Below (w1).heap.size (w1) w2:=by
      obtain ⟨pq,rfl⟩:=hwq
      exact below_regrown _ _ _
     clear hwq
     cases hbl:Op.bytesLess (recKey p) (recKey r)
     ·go_wp2
      go_ret
      exact ⟨Xag (by rw [Hst.out,h0];simp [hk0,Hkp.out,hbl]),hb1'.trans (hb2.mono hb1'.size)⟩
     ·go_wp2
      go_roundw
      case rel=>exact ⟨k+1,by omega,by go_num,(by rw [Hst.out,h0];simp [hk0,Hkp.out,hbl,Hkr.out]),hb1'.trans (hb2.mono hb1'.size)⟩
      case measure=>simp [intOf];omega
   ·have hn:(recValid r != 0)=true:=by simpa using h0
    go_wp2
    go_ret
    exact ⟨Xag (by rw [Hst.out,if_pos h0]),hb1'⟩
  ·go_wp2
   go_ret
   refine ⟨Xag ?_,hb⟩
   rw [←Hr.out,List.drop_of_length_le (by omega)];rfl
set_option maxRecDepth 100000 in
set_option maxHeartbeats 400000 in
theorem Xoo (g:Nat) (cb:Array Value) (n:Int) (p:Nat→Bool) (w:World) (eg:∀args w,(callFunc g args).run Tryz.prog w= .ok (.enter g args) w) (h0:0≤n) (hn:n≤4611686018427387904)
 (hf:∀(i:Nat) (W:World),(i:Int)<n→Below w.heap.size w W→Calls Tryz.prog g (#[.int .i64 i]++cb) W fun e w'=>e= .returned (.bool (p i))∧Below W.heap.size W w'):
 Calls Tryz.prog 122 #[.int .i64 n,.func (.func g) #[] cb] w fun e w'=>e= .returned (.int .i64 (bs p 0 n.toNat))∧Below w.heap.size w w':=by
 obtain ⟨n,rfl⟩:=Int.eq_ofNat_of_zero_le h0
 have Hf:=Qh hf;clear hf
 go_enter Tryz.func122,Tryz.ntmps122
 go_wp2
 go_loopw [5,6] (fun s5 s6 wr=> ∃lo hi:Nat,s5= .int .i64 lo∧s6= .int .i64 hi∧lo≤hi∧hi≤n∧bs p lo hi=bs p 0 n∧Below w.heap.size w wr) (fun a b _=>(intOf b).toNat-(intOf a).toNat)
 case atStart=>exact ⟨0,n,rfl,rfl,Nat.zero_le _,Qn _,rfl,Qb _ _⟩
 case round=>
  obtain ⟨lo,hi,rfl,rfl,hlh,hin,hr,hb⟩:=hrel
  have Hr:=Qh hr;clear hr
  by_cases hlt:lo<hi
  ·have hc:=Hf.out ((lo+hi) / 2) wr (by omega) hb
   rw [show (((lo+hi) / 2:Nat):Int)=((lo:Int)+(hi:Int)) / 2 by omega] at hc
   cases hp:p ((lo+hi) / 2)<;>rw [hp] at hc
   ·have Hp:=Qh hp;clear hp
    go_wp2_with fail
    refine hc.mono ?_
    rintro e w1 ⟨rfl,hb1⟩
    go_wp2
    go_roundw
    case rel=>exact ⟨(lo+hi) / 2+1,hi,by go_num,rfl,by omega,hin,(by rw [←Hr.out];conv=>rhs;rw [bs];rw [dif_pos hlt,Hp.out];simp),hb.trans (hb1.mono hb.size)⟩
    case measure=>simp [intOf];omega
   ·have Hp:=Qh hp;clear hp
    go_wp2_with fail
    refine hc.mono ?_
    rintro e w1 ⟨rfl,hb1⟩
    go_wp2
    go_roundw
    case rel=>exact ⟨lo,(lo+hi) / 2,rfl,by go_num,by omega,by omega,(by rw [←Hr.out];conv=>rhs;rw [bs];rw [dif_pos hlt,Hp.out];simp),hb.trans (hb1.mono hb.size)⟩
    case measure=>simp [intOf];omega
  ·go_wp2
   go_ret
   refine ⟨Xag ?_,hb⟩
   rw [Int.toNat_natCast,←Hr.out,bs,dif_neg hlt]
end Go.Proofs.YtkipnpjagcfcpaaGreatDoor
namespace Go.Proofs.YtkipnpjagcfcpaaGreatDoor
open Go.RowKit
set_option maxRecDepth 100000 in
set_option maxHeartbeats 400000 in
theorem Xo6 (I:IH) (hI:Glob I) (v:Value) (l:List Rec) (hv:RdS tRec I v l) (hl:∀r∈l,r.Wf) (key:Bytes) (i:Nat) (r:Rec) (hr:l[i]? =some r) (bl bk:Nat) (w:World) (hw:Ok I w)
 (hc1:w.cell? ⟨bl,0,none⟩=some v) (hc2:w.cell? ⟨bk,0,none⟩=some (S key)):
 Calls Tryz.prog 123 #[.int .i64 i,.pointer (some ⟨bl,0,none⟩),.pointer (some ⟨bk,0,none⟩)] w fun e w'=>e= .returned (.bool (!(Op.bytesLess (recKey r) key)))∧Below w.heap.size w w':=by
 have hlen:=hv.len_le
 obtain ⟨hi,hri⟩:=List.getElem?_eq_some_iff.1 hr
 obtain ⟨q,b,off,cap,hq,rfl,hq0,hq1,hq2⟩:=recAt hv hw i hi
 have e:q=r:=by rw [←hq,hri]
 subst e
 have hrw:=Qh (hl q (by rw [←hq];exact List.getElem_mem hi))
 have Hv:=Qh hv
 clear hv hr hl hri hq
 have hg1:=cell_regrown hc1
 have hg2:=cell_regrown hc2
 have hy0:=cell_regrown hq0
 have hy1:=cell_regrown hq1
 have hy2:=cell_regrown hq2
 go_enter Tryz.func123,Tryz.ntmps123
 go_wp2_with fail
 refine wp_region_quiet_below (by kernel_rfl) (by kernel_rfl) ?_
 repeat (go_big_quiet_step ((with_reducible exact Calls.regrown_of (Xdb I hI q hrw.out _ (hw.below (Qn _) (below_regrown _ _ _))))))
 refine wpQuiet_nil ?_
 intro w2 hwq
 have hb2:Below (w).heap.size (w) w2:=by
  obtain ⟨pq,rfl⟩:=hwq
  exact below_regrown _ _ _
 clear hwq
 go_wp2
 go_ret
 exact ⟨rfl,hb2⟩
def recIndex (l:List Rec) (key:Bytes):Nat:=bs (fun i=>(l[i]?).all fun r=> !(Op.bytesLess (recKey r) key)) 0 l.length
set_option maxRecDepth 100000 in
set_option maxHeartbeats 400000 in
theorem Xrp (I:IH) (hI:Glob I) (v:Value) (l:List Rec) (hv:RdS tRec I v l) (hl:∀r∈l,r.Wf) (hn:l.length≤1000000) (key:Bytes) (w:World) (hw:Ok I w):
 Calls Tryz.prog 69 #[v,S key] w fun e w'=>e= .returned (.int .i64 (recIndex l key))∧Below w.heap.size w w':=by
 obtain ⟨ao,cap,rfl,hcap,hcm,_⟩:=id hv
 have Hv:=Qh hv;clear hv
 have Hl:=Qh hl;clear hl
 go_enter Tryz.func69,Tryz.ntmps69
 go_wp2_with fail
 refine (Xoo 123 #[.pointer (some ⟨w.heap.size,0,none⟩),.pointer (some ⟨w.heap.size+1,0,none⟩)] _ (fun i=>(l[i]?).all fun r=> !(Op.bytesLess (recKey r) key)) _ (fun _ _=>by kernel_rfl) (by omega) (by omega) (fun i W hi hb=> ?_)).mono ?_
 ·have hi':i<l.length:=by omega
  have hb':Below (w.heap.size+1+1) ((w.alloc (.cells #[.slice ao l.length cap] 52)).alloc (.cells #[S key] 9)) W:=hb.mono (by simp)
  have hok:Ok I W:=((hw.alloc _).alloc _).below (by simp) hb'
  rw [List.getElem?_eq_getElem hi']
  exact Xo6 I hI _ l Hv.out Hl.out key i l[i] (List.getElem?_eq_getElem hi') w.heap.size (w.heap.size+1) W hok (by rw [hb'.cell (by simp;omega)];simp [go_sem]) (by rw [hb'.cell (by simp)];simp [go_sem])
 ·rintro e w1 ⟨rfl,hb1⟩
  go_wp2
  go_ret
  exact ⟨rfl,(((Qb _ _).alloc (Qn _) _).alloc (by simp) _).trans (hb1.mono (by simp;omega))⟩
def recRight (l:List Rec):Int:=if l.length≤100∧recCheck l=0 then 1 else 0
theorem Xl7 (a b:Rec) (W:World):(binOp .neq 57 (.agg #[.int .u32 a.a,.int .i64 a.s,S a.d]) (.agg #[.int .u32 b.a,.int .i64 b.s,S b.d])).run Tryz.prog W= .ok (.bool (!decide (a=b))) W:=by
 rw [Xoa _ _ [(41,0,false),(3,1,false),(9,2,false)] W (by kernel_rfl) (by kernel_rfl) (by kernel_rfl)]
 obtain ⟨a1,a2,a3⟩:=a
 obtain ⟨b1,b2,b3⟩:=b
 simp [go_sem]
 by_cases h1:a1=b1<;>by_cases h2:a2=b2<;>by_cases h3:a3=b3<;>simp [h1,h2,h3]<;>omega
set_option maxRecDepth 100000 in
set_option maxHeartbeats 400000 in
theorem Xod (I:IH) (v1 v2:Value) (l1 l2:List Rec) (hv1:RdS tRec I v1 l1) (hv2:RdS tRec I v2 l2) (w:World) (hw:Ok I w):
 Calls Tryz.prog 17 #[v1,v2] w fun e w'=>e= .returned (.bool (decide (l1=l2)))∧Below w.heap.size w w':=by
 have hlen:=hv1.len_le
 have hlen2:=hv2.len_le
 obtain ⟨ao,cap,rfl,hcap,hcm,_⟩:=id hv1
 obtain ⟨ao2,cap2,rfl,hcap2,hcm2,_⟩:=id hv2
 have Hv1:=Qh hv1;clear hv1
 have Hv2:=Qh hv2;clear hv2
 by_cases hll:l1.length=l2.length
 ·have hn:((l1.length:Int) != (l2.length:Int))=false:=by rw [hll];simp
  have Hll:=Qh hll;clear hll
  go_enter Tryz.func17,Tryz.ntmps17
  go_wp2
  go_loopw [13] (fun s13 wr=> ∃k:Nat,k≤l1.length∧s13= .int .i64 k∧l1.take k=l2.take k∧Below w.heap.size w wr) (fun i _=>l1.length-(intOf i).toNat)
  case atStart=>exact ⟨0,Nat.zero_le _,rfl,rfl,Qb _ _⟩
  case round=>
   obtain ⟨k,hk,rfl,hr,hb⟩:=hrel
   have Hr:=Qh hr;clear hr
   by_cases hlt:k<l1.length
   ·have hlt2:k<l2.length:=by rw [←Hll.out];exact hlt
    have hwr:Ok I wr:=hw.below (Qn _) hb
    obtain ⟨p,b,off,cap',hp,hvv,hp0,hp1,hp2⟩:=recAt Hv1.out hwr k hlt
    cases hvv
    obtain ⟨q,b',off',cap'',hq,hvv,hq0,hq1,hq2⟩:=recAt Hv2.out hwr k hlt2
    cases hvv
    have Hp:=Qh hp;clear hp
    have Hq:=Qh hq;clear hq
    have hg0:=cell_regrown hp0
    have hg1:=cell_regrown hp1
    have hg2:=cell_regrown hp2
    have hy0:=cell_regrown hq0
    have hy1:=cell_regrown hq1
    have hy2:=cell_regrown hq2
    have hneq:=Xl7 p q
    by_cases hpq:p=q
    ·rw [Qt hpq] at hneq
     go_wp2_with fail
     refine wp_region_quiet_below (by kernel_rfl) (by kernel_rfl) ?_
     repeat (go_big_quiet_step ((fail)))
     refine wpQuiet_nil ?_
     intro w2 hwq
     have hb2:Below (wr).heap.size (wr) w2:=by
      obtain ⟨pq,rfl⟩:=hwq
      exact below_regrown _ _ _
     clear hwq
     go_wp2
     go_roundw
     case rel=>exact ⟨k+1,by omega,by go_num,by rw [List.take_succ_eq_append_getElem hlt,List.take_succ_eq_append_getElem hlt2,Hr.out,Hp.out,Hq.out,hpq],hb.trans (hb2.mono hb.size)⟩
     case measure=>simp [intOf];omega
    ·rw [Qf hpq] at hneq
     go_wp2_with fail
     refine wp_region_quiet_below (by kernel_rfl) (by kernel_rfl) ?_
     repeat (go_big_quiet_step ((fail)))
     refine wpQuiet_nil ?_
     intro w2 hwq
     have hb2:Below (wr).heap.size (wr) w2:=by
      obtain ⟨pq,rfl⟩:=hwq
      exact below_regrown _ _ _
     clear hwq
     go_wp2
     go_ret
     refine ⟨Xa2 ?_,hb.trans (hb2.mono hb.size)⟩
     symm
     rw [decide_eq_false_iff_not]
     intro h
     apply hpq
     rw [←Hp.out,←Hq.out]
     simp [h]
   ·go_wp2
    go_ret
    refine ⟨Xa2 ?_,hb⟩
    symm
    rw [decide_eq_true_iff]
    have:=Hr.out
    rwa [List.take_of_length_le (by omega),List.take_of_length_le (by rw [←Hll.out];omega)] at this
 ·have hn:((l1.length:Int) != (l2.length:Int))=true:=by rw [bne_iff_ne];omega
  go_enter Tryz.func17,Tryz.ntmps17
  go_wp2
  go_ret
  exact ⟨Xa2 (by simp;intro h;exact hll (by rw [h])),Qb _ _⟩
theorem Xbo:(Tryz.prog.info? 57).map (fun i=>(i.zero,i.size,i.bytes))=some (some (.agg #[.int .u32 0,.int .i64 0,.string ⟨#[]⟩]),3,32):=by kernel_rfl
set_option maxRecDepth 100000 in
set_option maxHeartbeats 400000 in
theorem Xgw (I:IH) (v:Value) (l:List _) (hv:RdS tRec I v l) (w:World) (hw:Ok I w) (hbig:l.length*32≤140737488355328):
 Calls Tryz.prog 71 #[v] w fun e w'=> ∃v',e= .returned v'∧OwnS tRec 57 I w' w.heap.size v' l∧Below w.heap.size w w':=by
 obtain ⟨i0,hi,hz0,hz1,hz2⟩:=info_parts Xbo
 have q22:∀(w:World) (a:Option Addr) (n c n' c':Nat),(binOp .eql 52 (.slice a n c) (.slice none n' c')).run Tryz.prog w= .ok (.bool a.isNone) w:=fun w a n c n' c'=>Lib.run_eql_slice_nil w _ _ a n c n' c' Tryz.underlying52
 obtain ⟨ao,cap,xs,rfl,hcap,hcm,hL,hx⟩:=hv.cells hw (by decide)
 have HL:=Qh hL
 have Hx:=Qh hx
 clear hL hx hv
 cases ao with
 |none=>
  have h0:l.length=0:=by
   rcases Nat.eq_zero_or_pos l.length with h|h
   ·exact h
   ·obtain ⟨b,off,arr,e,_⟩:=Hx.out h;cases e
  have:l= []:=List.eq_nil_of_length_eq_zero h0
  subst this
  go_enter Tryz.func71,Tryz.ntmps71
  go_wp2
  go_ret
  exact ⟨_,rfl,OwnS.nil _ _ _ _ _,Qb _ _⟩
 |some a=>
  go_enter Tryz.func71,Tryz.ntmps71
  go_wp2_with (at_builtin;refine wpList_append_own _ rfl _ _ 52 rfl w.heap.size 57 i0 _ 3 32 Tryz.underlying52 hi hz0 hz1 hz2 rfl (by decide) _ _ _ rfl (World.ownsRow_made w #[] 0 (Qn _) (Nat.zero_le _) (by simp)) a l.length cap xs rfl ?qc1 ?qc2 ?qc3 ?qc4 ?qc5 ?qc6 ?_)
  case qc1=>exact HL.out.1
  case qc2=>
   intro j u hj
   have hl:0<l.length:=by
    have:=(List.getElem?_eq_some_iff.1 hj).1
    rw [HL.out.1] at this
    rcases Nat.eq_zero_or_pos l.length with h|h
    ·rw [h] at this;omega
    ·exact h
   obtain ⟨b,off,arr,e,_,hb,hc⟩:=Hx.out hl
   cases e
   rw [Addr.add_lit]
   rw [World.cell?_alloc_lt _ _ _ hb]
   exact hc j u hj
  case qc3=>exact HL.out.oneCell
  case qc4=>rw [Nat.zero_add];omega
  case qc5=>rw [Nat.zero_add];exact hbig
  case qc6=>simp
  intro v' w1 hown hgrow _
  go_wp2
  go_ret
  refine ⟨v',rfl,⟨xs,(by have hq:=hown;first|exact hq|(simp at hq;exact hq)),HL.out⟩,?_⟩
  exact ((Qb _ w).alloc (Qn _) _).grown hgrow (by simp) (by intro k hk;simp [Value.ownBlock] at hk;omega)
set_option maxRecDepth 100000 in
set_option maxHeartbeats 2000000 in
theorem Xh0 (I:IH) (B:Nat) (v:Value) (l:List _) (x:_) (vb:Nat) (news:List Value) (w:World) (hv:OwnS tRec 57 I w B v l) (hx:tRec.rd I news x)
 (hvs:∀j u,news[j]? =some u→w.cell? ⟨vb,j,none⟩=some u) (hbig:(l.length+1)*32≤140737488355328) (hB:B≤w.heap.size):
 Calls Tryz.prog 70 #[v,.int .i64 l.length,.slice (some ⟨vb,0,none⟩) 1 1] w fun e w'=> ∃v',e= .returned v'∧OwnS tRec 57 I w' B v' (l++ [x])∧w.grownBy w' v.ownBlock:=by
 obtain ⟨i0,hi,hz0,hz1,hz2⟩:=info_parts Xbo
 obtain ⟨xs,hown,hL⟩:=hv
 have HL:=Qh hL
 have Hx:=Qh hx
 have Hvs:=Qh hvs
 have hml:maxLen=9223372036854775807:=rfl
 have hlen:l.length≤4611686018427387904:=by omega
 clear hL hx hvs
 have hcase:v= .slice none 0 0∧l.length=0∨ ∃g cap,v= .slice (some ⟨g,0,none⟩) l.length cap∧l.length≤cap∧cap≤9223372036854775807:=by
  rcases hown.2 with h|⟨g,cap,cur,h1,_,_,h2,h3,_⟩
  ·exact .inl h
  ·exact .inr ⟨g,cap,h1,h2,by rw [hml] at h3;exact h3⟩
 have Hml:=Qh hml
 clear hml
 rcases hcase with ⟨rfl,h0⟩|⟨g,cap,rfl,hcap,hcm⟩
 ·have:l= []:=List.eq_nil_of_length_eq_zero h0
  subst this
  go_enter Tryz.func70,Tryz.ntmps70
  go_wp2_with (at_builtin;refine wpList_append_own _ rfl _ _ 52 rfl B 57 i0 _ 3 32 Tryz.underlying52 hi hz0 hz1 hz2 rfl (by decide) _ _ _ rfl hown ⟨vb,0,none⟩ 1 1 news rfl ?qc1 ?qc2 ?qc3 ?qc4 ?qc5 ?qc6 ?_)
  case qc1=>exact tRec.len Hx.out
  case qc2=>intro j u hj;rw [Addr.add_lit,Nat.zero_add];exact Hvs.out j u hj
  case qc3=>exact tRec.one Hx.out
  case qc4=>rw [Hml.out];simp
  case qc5=>simp
  case qc6=>exact hB
  intro v' w1 hown1 hgrow _
  go_wp2
  go_ret
  exact ⟨v',rfl,⟨_,hown1,LiesL.append HL.out (LiesL.one Hx.out)⟩,hgrow⟩
 ·go_enter Tryz.func70,Tryz.ntmps70
  go_wp2_with (at_builtin;refine wpList_append_own _ rfl _ _ 52 rfl B 57 i0 _ 3 32 Tryz.underlying52 hi hz0 hz1 hz2 rfl (by decide) _ _ _ rfl hown ⟨vb,0,none⟩ 1 1 news rfl (tRec.len Hx.out) (fun j u hj=>by rw [Addr.add_lit,Nat.zero_add];exact Hvs.out j u hj) (tRec.one Hx.out) (by rw [Hml.out];omega) hbig hB ?_)
  all_goals
   intro v' w1 hown1 hgrow _
   go_wp2
   go_ret
   exact ⟨v',rfl,⟨_,by rw [List.length_append];exact hown1,LiesL.append HL.out (LiesL.one Hx.out)⟩,hgrow⟩
set_option maxRecDepth 100000 in
set_option maxHeartbeats 4000000 in
theorem Xfz (I:IH) (B g cap i:Nat) (l:List _) (x:_) (vb:Nat) (tb:TypeId) (news:List Value) (w:World) (hv:OwnS tRec 57 I w B (.slice (some ⟨g,0,none⟩) l.length cap) l) (hx:tRec.rd I news x)
 (hvb:w.heap[vb]? =some (.cells news.toArray tb (0,0))) (hne:vb≠g) (hi:i<l.length) (hroom:l.length+1≤cap) (hcm:cap≤9223372036854775807):
 Calls Tryz.prog 70 #[.slice (some ⟨g,0,none⟩) l.length cap,.int .i64 i,.slice (some ⟨vb,0,none⟩) 1 1] w fun e w'=> ∃v',e= .returned v'∧OwnS tRec 57 I w' B v' (l.take i++x::l.drop i)∧w.grownBy w' (some g):=by
 obtain ⟨i0,hif,hz0,hz1,hz2⟩:=info_parts Xbo
 obtain ⟨xs,⟨hxl,hown⟩,hL⟩:=hv
 rcases hown with ⟨h0,_⟩|⟨g',cap',cur,h1,hBg,hg,_,hcm',hcs,htk⟩
 ·cases h0
 injection h1 with h1a h1b h1c
 injection h1a with h1a
 injection h1a with h1a
 subst h1a h1c
 have hsz:(Tryz.prog.info? 57).map (·.size)=some 3:=by rw [hif];simp [hz1]
 have hnl:news.length=3:=tRec.len hx
 have hn1:=tRec.one hx
 have hxl':xs.length=l.length*3:=hxl
 have hcs':cur.size=cap*3:=hcs
 have htk':cur.toList.take xs.length=xs:=by rw [hxl];exact htk
 have hov:∀lb cb,(callFunc 124 #[.slice (some ⟨vb,0,none⟩) 1 1,.slice (some ⟨g,(i+1)*3,none⟩) lb cb]).run Tryz.prog w= .ok (.value (.bool false)) w:=fun lb cb=>by
  rw [run_callFunc_extern Tryz.func124 (by kernel_rfl) (by kernel_rfl) (by kernel_rfl) (e:=Extern.SlicesOverlaps.overlaps #[52,52] #[4]) (by kernel_rfl),
   Lib.run_overlaps_apart w 52 4 57 Tryz.underlying52 3 (fun w=>by simp [go_sem]) ⟨vb,0,none⟩ ⟨g,(i+1)*3,none⟩ 1 1 lb cb hne tb 57 3 cur.size (by simp [World.shape?,hvb,hnl]) (by simp [World.shape?,hg]) (by omega) (by simp [World.frozen?,hvb]) (by simp [World.frozen?,hvb])]
  rfl
 obtain ⟨cur1,hcur1⟩:∃c,c=over cur (i*3+3) (xs.drop (i*3)):=⟨_,rfl⟩
 have hs1:cur1.size=cur.size:=by rw [hcur1];exact Xa8 _ _ _ (by rw [List.length_drop];omega)
 obtain ⟨cur2,hcur2⟩:∃c,c=over cur1 (i*3) news:=⟨_,rfl⟩
 have hs2:cur2.size=cur1.size:=by rw [hcur2];exact Xa8 _ _ _ (by omega)
 have hfin:cur2.toList.take ((l.length+1)*3)=xs.take (i*3)++news++xs.drop (i*3):=by
  have:=insert_row cur xs news (i*3) 3 (by omega) htk' hnl (by omega)
  rw [←hcur1,←hcur2] at this
  rw [show (l.length+1)*3=xs.length+3 by omega]
  exact this
 have hcp1:∀ty dc sc,(Builtin.copy_ #[52,52] ty #[.slice (some ⟨g,(i+1)*3,none⟩) (l.length-i) dc,.slice (some ⟨g,i*3,none⟩) (l.length+1-i) sc]).run Tryz.prog w.drew= .ok (goInt ((l.length-i:Nat):Int)) (w.drew.setRow g cur1):=fun ty dc sc=>by
  have h:=Xa5 (P:=Tryz.prog) w.drew 52 52 ty 57 3 g ((i+1)*3) (l.length-i) dc ⟨g,i*3,none⟩ (l.length+1-i) sc cur 57 (xs.drop (i*3)) Tryz.underlying52 hsz hg (by rw [List.length_drop];simp only [Nat.min_def];split<;>omega)
   (fun j u hj=>by
     rw [Addr.add_lit]
     rw [List.getElem?_drop,←htk',List.getElem?_take] at hj
     split at hj
     ·rw [World.cell?_drew,cell_of_row w g _ cur _ _ hg,←Array.getElem?_toList];exact hj
     ·cases hj) (by rw [List.length_drop];omega) (fun u hu=>hL.oneCell u (List.mem_of_mem_drop hu))
  rw [h,show Nat.min (l.length+1-i) (l.length-i)=l.length-i by simp only [Nat.min_def];split<;>omega,hcur1]
  rw [show (i+1)*3=i*3+3 by omega]
  rfl
 have hg1:(w.drew.setRow g cur1).heap[g]? =some (.cells cur1 57 (0,0)):=setRow_heap w.drew g cur cur1 _ _ hg
 have hcp2:∀ty dc,(Builtin.copy_ #[52,52] ty #[.slice (some ⟨g,i*3,none⟩) (l.length+1-i) dc,.slice (some ⟨vb,0,none⟩) 1 1]).run Tryz.prog (w.drew.setRow g cur1)= .ok (goInt 1) ((w.drew.setRow g cur1).setRow g cur2):=fun ty dc=>by
  have h:=Xa5 (P:=Tryz.prog) (w.drew.setRow g cur1) 52 52 ty 57 3 g (i*3) (l.length+1-i) dc ⟨vb,0,none⟩ 1 1 cur1 57 news Tryz.underlying52 hsz hg1 (by rw [hnl];simp only [Nat.min_def];split<;>omega)
   (fun j u hj=>by
     rw [Addr.add_lit,Nat.zero_add]
     have:(w.drew.setRow g cur1).heap[vb]? =some (.cells news.toArray tb (0,0)):=by rw [setRow_other _ _ _ _ hne];exact hvb
     rw [cell_of_row _ vb j _ _ _ this];simpa using hj) (by omega) hn1
  rw [h,show Nat.min 1 (l.length+1-i)=1 by simp only [Nat.min_def];split<;>omega,hcur2]
  rfl
 have Hlen:=Qh (show (xs.take (i*3)++news++xs.drop (i*3)).length=(l.length+1)*3 by simp;omega)
 have Hsz:=Qh (show cur2.size=cap*3 by omega)
 have Hfin:=Qh hfin
 have HL:=Qh hL
 have Hx:=Qh hx
 have Hg1:=Qh hg1
 have hb1:¬(cap=i+1):=by omega
 have hb2:¬(cap=i):=by omega
 clear hfin hL hx hg1 hcur1 hcur2 hxl hxl' hcs hcs' htk htk' hnl hn1 hvb hcm' hg
 have hw1:IntKind.i64.wrap ((i:Int)+1)=(i:Int)+1:=IntWalk.i64_in _ (by omega)
 have hw2:0≤(i:Int)+1:=by omega
 have hw3:((i:Int)+1).toNat=i+1:=by omega
 have hw4:i≤l.length:=by omega
 have hw5:(i:Int)≤(l.length:Int)+1:=by omega
 go_enter Tryz.func70,Tryz.ntmps70
 go_wp2_with (simp only [hov])
 go_region_law (refine step_copy_runI rfl _ _ 52 52 rfl _ _ (by simp [Act.eval,Act.put]) (by simp [Act.eval,Act.put]) (hcp1 _ _ _) ?_)
 go_wp2_with (at_builtin;refine wpList_copy_runI _ rfl _ _ 52 52 rfl _ _ rfl rfl (hcp2 _ _) ?_)
 go_ret
 have hln:(l.take i++x::l.drop i).length=l.length+1:=by simp;omega
 refine ⟨_,rfl,?_,?_⟩
 ·unfold OwnS
  rw [hln]
  refine ⟨xs.take (i*3)++news++xs.drop (i*3),⟨Hlen.out,.inr ⟨g,cap,cur2,rfl,hBg,setRow_heap _ g cur1 cur2 _ _ Hg1.out,by omega,by unfold maxLen;omega,Hsz.out,Hfin.out⟩⟩,?_⟩
  have:=((HL.out.take i).append (LiesL.one Hx.out)).append (HL.out.drop i)
  rwa [show l.take i++ [x]++l.drop i=l.take i++x::l.drop i by simp] at this
 ·have h0:w.grownBy w.drew (some g):=⟨rfl,rfl,rfl,Qn _,fun _ _ _=>rfl⟩
  exact Xbi (Xbi h0 Xas) Xas
set_option maxRecDepth 100000 in
set_option maxHeartbeats 4000000 in
theorem Xgv (I:IH) (B g cap i:Nat) (l:List _) (x:_) (vb:Nat) (tb:TypeId) (news:List Value) (w:World) (hv:OwnS tRec 57 I w B (.slice (some ⟨g,0,none⟩) l.length cap) l) (hx:tRec.rd I news x)
 (hvb:w.heap[vb]? =some (.cells news.toArray tb (0,0))) (hi:i<l.length) (hroom:cap<l.length+1) (hbig:(l.length+1)*32≤140737488355328) (hB:B≤w.heap.size):
 Calls Tryz.prog 70 #[.slice (some ⟨g,0,none⟩) l.length cap,.int .i64 i,.slice (some ⟨vb,0,none⟩) 1 1] w fun e w'=> ∃v',e= .returned v'∧OwnS tRec 57 I w' B v' (l.take i++x::l.drop i)∧w.grownBy w' (some g):=by
 obtain ⟨i0,hif,hz0,hz1,hz2⟩:=info_parts Xbo
 obtain ⟨xs,⟨hxl,hown⟩,hL⟩:=hv
 rcases hown with ⟨h0,_⟩|⟨g',cap',cur,h1,hBg,hg,hnc,hcm',hcs,htk⟩
 ·cases h0
 injection h1 with h1a h1b h1c
 injection h1a with h1a
 injection h1a with h1a
 subst h1a h1c
 have hsz:(Tryz.prog.info? 57).map (·.size)=some 3:=by rw [hif];simp [hz1]
 have hnl:news.length=3:=tRec.len hx
 have hn1:=tRec.one hx
 have hxl':xs.length=l.length*3:=hxl
 have hcs':cur.size=cap*3:=hcs
 have htk':cur.toList.take xs.length=xs:=by rw [hxl];exact htk
 have hgw:g<w.heap.size:=(Array.getElem?_eq_some_iff.1 hg).1
 have hvw:vb<w.heap.size:=(Array.getElem?_eq_some_iff.1 hvb).1
 have hxcell:∀(j:Nat) u,xs[j]? =some u→w.cell? ⟨g,j,none⟩=some u:=fun j u hj=>by
  rw [←htk',List.getElem?_take] at hj
  split at hj
  ·rw [cell_of_row w g _ cur _ _ hg,←Array.getElem?_toList];exact hj
  ·cases hj
 have hold:(Builtin.firstCells i0.size i (.slice (some ⟨g,0,none⟩) i cap)).run Tryz.prog w.drew= .ok (xs.take (i*3)).toArray w.drew:=
  run_firstCells_some w.drew i0.size i ⟨g,0,none⟩ i cap (xs.take (i*3)) (by rw [hz1,List.length_take];omega) (fun j u hj=>by
   rw [Addr.add_lit,Nat.zero_add]
   rw [List.getElem?_take] at hj
   split at hj
   ·exact hxcell j u hj
   ·cases hj)
 obtain ⟨G,hG⟩:∃G,G=grownCap w (l.length+1) cap 57:=⟨_,rfl⟩
 have hGn:l.length+1≤G:=by rw [hG];exact grownCap_ge w _ _ _
 have hG63:G≤9223372036854775807:=by
  have:=grownCap_le_maxLen w (l.length+1) cap 57 (by unfold maxLen;omega)
  rw [←hG] at this
  unfold maxLen at this
  omega
 obtain ⟨z,hz⟩:∃z,i0.zero=some z:=⟨_,hz0⟩
 have hzs:z.cells.size=3:=by rw [hz] at hz0;cases hz0;rfl
 obtain ⟨ROW,hROW⟩:∃ROW:Array Value,ROW=(xs.take (i*3)).toArray++Builtin.zeroCells z.cells (l.length+1-i)++Builtin.zeroCells z.cells (G-(l.length+1)):=⟨_,rfl⟩
 have hRs:ROW.size=G*3:=by
  rw [hROW,Array.size_append,Array.size_append,size_zeroCells,size_zeroCells,hzs]
  simp
  omega
 have hRt:ROW.toList.take (i*3)=xs.take (i*3):=by
  rw [hROW,Array.toList_append,Array.toList_append,List.append_assoc,List.take_append_of_le_length (by simp;omega),List.take_of_length_le (by simp;omega)]
 have hrz:∀ty,(Builtin.append_ #[52,3] ty #[.slice (some ⟨g,0,none⟩) i cap,.int .i64 ((l.length:Int)+1-(i:Int))]).run Tryz.prog w=
  .ok (.slice (some ⟨w.heap.size,0,none⟩) (l.length+1) G) (w.drew.alloc (.cells ROW 57)):=fun ty=>by
  have h:=Lib.run_append_grow_zeros w 52 3 ty 57 i0 z .i64 .i64 Tryz.underlying52 Tryz.underlying3 hif hz (some ⟨g,0,none⟩) i cap (xs.take (i*3)) hold (l.length+1-i) (by omega) (by rw [hz1];omega) (by omega) (by omega) (by rw [hz2];omega) (by rw [hz2,show i+(l.length+1-i)=l.length+1 by omega];exact growslice_fits hroom hbig)
  rw [show i+(l.length+1-i)=l.length+1 by omega,←hG,←hROW] at h
  rw [show (l.length:Int)+1-(i:Int)=((l.length+1-i:Nat):Int) by omega]
  exact h
 obtain ⟨row2,hrow2⟩:∃c,c=over ROW (i*3) news:=⟨_,rfl⟩
 have hs2:row2.size=ROW.size:=by rw [hrow2];exact Xa8 _ _ _ (by omega)
 obtain ⟨row3,hrow3⟩:∃c,c=over row2 (i*3+3) (xs.drop (i*3)):=⟨_,rfl⟩
 have hs3:row3.size=row2.size:=by rw [hrow3];exact Xa8 _ _ _ (by rw [List.length_drop];omega)
 have hfin:row3.toList.take ((l.length+1)*3)=xs.take (i*3)++news++xs.drop (i*3):=by
  have:=Xeh ROW xs news (i*3) 3 (by omega) hRt hnl (by omega)
  rw [←hrow2,←hrow3] at this
  rw [show (l.length+1)*3=xs.length+3 by omega]
  exact this
 obtain ⟨W1,hW1⟩:∃W1,W1=w.drew.alloc (.cells ROW 57):=⟨_,rfl⟩
 have hN1:W1.heap[w.heap.size]? =some (.cells ROW 57 (0,0)):=by rw [hW1];exact heap_alloc_new w.drew _
 have ho1:∀b,b<w.heap.size→W1.heap[b]? =w.heap[b]? :=fun b hb=>by rw [hW1];exact Below.heap_alloc w.drew _ b hb
 rw [←hW1] at hrz
 have hcpA:∀ty dc,(Builtin.copy_ #[52,52] ty #[.slice (some ⟨w.heap.size,i*3,none⟩) (l.length+1-i) dc,.slice (some ⟨vb,0,none⟩) 1 1]).run Tryz.prog W1= .ok (goInt 1) (W1.setRow w.heap.size row2):=fun ty dc=>by
  have h:=Xa5 (P:=Tryz.prog) W1 52 52 ty 57 3 w.heap.size (i*3) (l.length+1-i) dc ⟨vb,0,none⟩ 1 1 ROW 57 news Tryz.underlying52 hsz hN1 (by rw [hnl];simp only [Nat.min_def];split<;>omega)
   (fun j u hj=>by
     rw [Addr.add_lit,Nat.zero_add,cell_of_row _ vb j _ _ _ ((ho1 vb hvw).trans hvb)];simpa using hj) (by omega) hn1
  rw [h,show Nat.min 1 (l.length+1-i)=1 by simp only [Nat.min_def];split<;>omega,hrow2]
  rfl
 have hN2:(W1.setRow w.heap.size row2).heap[w.heap.size]? =some (.cells row2 57 (0,0)):=setRow_heap W1 w.heap.size ROW row2 _ _ hN1
 have hcpB:∀ty dc sc,(Builtin.copy_ #[52,52] ty #[.slice (some ⟨w.heap.size,(i+1)*3,none⟩) (l.length-i) dc,.slice (some ⟨g,i*3,none⟩) (l.length-i) sc]).run Tryz.prog (W1.setRow w.heap.size row2).drew= .ok (goInt ((l.length-i:Nat):Int)) ((W1.setRow w.heap.size row2).drew.setRow w.heap.size row3):=fun ty dc sc=>by
  have h:=Xa5 (P:=Tryz.prog) (W1.setRow w.heap.size row2).drew 52 52 ty 57 3 w.heap.size ((i+1)*3) (l.length-i) dc ⟨g,i*3,none⟩ (l.length-i) sc row2 57 (xs.drop (i*3)) Tryz.underlying52 hsz hN2 (by rw [List.length_drop];simp only [Nat.min_def];split<;>omega)
   (fun j u hj=>by
     rw [Addr.add_lit]
     rw [List.getElem?_drop] at hj
     have hgg:(W1.setRow w.heap.size row2).heap[g]? =some (.cells cur 57 (0,0)):=by rw [setRow_other _ _ _ _ (by omega),ho1 g hgw];exact hg
     rw [World.cell?_drew,cell_of_row _ g _ cur _ _ hgg,←cell_of_row w g _ cur _ _ hg]
     exact hxcell _ u hj) (by rw [List.length_drop];omega) (fun u hu=>hL.oneCell u (List.mem_of_mem_drop hu))
  rw [h,show Nat.min (l.length-i) (l.length-i)=l.length-i by simp only [Nat.min_def];split<;>omega,hrow3]
  rw [show (i+1)*3=i*3+3 by omega]
  rfl
 have Hlen:=Qh (show (xs.take (i*3)++news++xs.drop (i*3)).length=(l.length+1)*3 by simp;omega)
 have Hsz:=Qh (show row3.size=G*3 by omega)
 have Hfin:=Qh hfin
 have HL:=Qh hL
 have Hx:=Qh hx
 have HN2:=Qh hN2
 have HW1:=Qh hW1
 have hb1:¬(G=i+1):=by omega
 have hb2:¬(G=i):=by omega
 have hb3:¬(cap=i):=by omega
 clear hfin hL hx hN2 hN1 hrow2 hrow3 hROW hRs hRt hxl hxl' hcs hcs' htk htk' hnl hn1 hvb hcm' hg hold hxcell ho1 hW1 hG hz hz0 hzs hs2 hs3
 have hw1:IntKind.i64.wrap ((i:Int)+1)=(i:Int)+1:=IntWalk.i64_in _ (by omega)
 have hw2:0≤(i:Int)+1:=by omega
 have hw3:((i:Int)+1).toNat=i+1:=by omega
 have hw4:i≤l.length:=by omega
 have hw5:(i:Int)≤(l.length:Int)+1:=by omega
 go_enter Tryz.func70,Tryz.ntmps70
 go_wp2_with (first
  |(at_builtin;refine Lib.wpList_append_run _ rfl _ _ _ _ rfl _ _ rfl rfl _ _ (hrz _) ?_)
  |(at_builtin;refine wpList_copy_runI _ rfl _ _ 52 52 rfl _ _ rfl rfl (hcpA _ _) ?_))
 go_region_law (refine step_copy_runI rfl _ _ 52 52 rfl _ _ (by simp [Act.eval,Act.put]) (by simp [Act.eval,Act.put]) (hcpB _ _ _) ?_)
 go_wp2
 go_ret
 have hln:(l.take i++x::l.drop i).length=l.length+1:=by simp;omega
 refine ⟨_,rfl,?_,?_⟩
 ·unfold OwnS
  rw [hln]
  refine ⟨xs.take (i*3)++news++xs.drop (i*3),⟨Hlen.out,.inr ⟨w.heap.size,G,row3,rfl,hB,setRow_heap _ w.heap.size row2 row3 _ _ HN2.out,hGn,by unfold maxLen;omega,Hsz.out,Hfin.out⟩⟩,?_⟩
  have:=((HL.out.take i).append (LiesL.one Hx.out)).append (HL.out.drop i)
  rwa [show l.take i++ [x]++l.drop i=l.take i++x::l.drop i by simp] at this
 ·rw [HW1.out]
  exact ⟨rfl,rfl,rfl,by simp,fun k hk _=>by
   rw [setRow_other _ _ _ _ (by omega)]
   show ((w.drew.alloc (.cells ROW 57)).setRow w.heap.size row2).heap[k]? =_
   rw [setRow_other _ _ _ _ (by omega)]
   exact Below.heap_alloc w.drew _ k hk⟩
theorem Xh9 (I:IH) (B:Nat) (v:Value) (l:List _) (x:_) (vb i:Nat) (tb:TypeId) (news:List Value) (w:World) (hv:OwnS tRec 57 I w B v l) (hx:tRec.rd I news x)
 (hvb:w.heap[vb]? =some (.cells news.toArray tb (0,0))) (hne:v.ownBlock≠some vb) (hi:i≤l.length) (hbig:(l.length+1)*32≤140737488355328) (hB:B≤w.heap.size):
 Calls Tryz.prog 70 #[v,.int .i64 i,.slice (some ⟨vb,0,none⟩) 1 1] w fun e w'=> ∃v',e= .returned v'∧OwnS tRec 57 I w' B v' (l.take i++x::l.drop i)∧w.grownBy w' v.ownBlock:=by
 by_cases he:i=l.length
 ·subst he
  rw [List.take_length,List.drop_length]
  exact Xh0 I B v l x vb news w hv hx (fun j u hj=>by rw [cell_of_row w vb j _ _ _ hvb];simpa using hj) hbig hB
 ·have hcase:∃g cap,v= .slice (some ⟨g,0,none⟩) l.length cap∧cap≤maxLen:=by
   obtain ⟨xs,⟨_,hown⟩,_⟩:=hv
   rcases hown with ⟨_,h⟩|⟨g,cap,cur,h1,_,_,_,h3,_⟩
   ·omega
   ·exact ⟨g,cap,h1,h3⟩
  obtain ⟨g,cap,rfl,hcm⟩:=hcase
  by_cases hr:l.length+1≤cap
  ·exact Xfz I B g cap i l x vb tb news w hv hx hvb (fun e=>hne (by rw [e];rfl)) (by omega) hr (by unfold maxLen at hcm;omega)
  ·exact Xgv I B g cap i l x vb tb news w hv hx hvb (by omega) (by omega) hbig hB
def recAdd (l:List Rec) (r:Rec):List Rec × Int:=
 if recValid r≠0 then ([],recValid r)
 else match l[recIndex l (recKey r)]? with
  |none=>(l.take (recIndex l (recKey r))++r::l.drop (recIndex l (recKey r)),0)
  |some x=>if recKey x≠recKey r then (l.take (recIndex l (recKey r))++r::l.drop (recIndex l (recKey r)),0) else if x.d≠r.d then ([],20) else (l,0)
theorem Xc8 (l:List Rec) (key:Bytes):recIndex l key≤l.length:=(Xrt _ 0 l.length (Nat.zero_le _)).2
set_option maxRecDepth 100000 in
set_option maxHeartbeats 1000000 in
theorem Xrr (I:IH) (hI:Glob I) (v:Value) (l:List Rec) (hv:RdS tRec I v l) (hl:∀r∈l,r.Wf) (hn:l.length≤1000000) (r:Rec) (hr:r.Wf) (w:World) (hw:Ok I w):
 Calls Tryz.prog 35 #[v,r.v] w (RetL tRec I w (recAdd l r).1 (recAdd l r).2):=by
 obtain ⟨ao,cap,rfl,hcap,hcm,_⟩:=id hv
 have hkl:(recKey r).length≤9223372036854775807:=by simp only [recKey];split<;>simp [Xbs]
 have hil:=Xc8 l (recKey r)
 have Hv:=Qh hv;clear hv
 have Hl:=Qh hl;clear hl
 have Hr:=Qh hr;clear hr
 by_cases h0:recValid r=0
 ·have hst:recAdd l r=match l[recIndex l (recKey r)]? with
   |none=>(l.take (recIndex l (recKey r))++r::l.drop (recIndex l (recKey r)),0)
   |some x=>if recKey x≠recKey r then (l.take (recIndex l (recKey r))++r::l.drop (recIndex l (recKey r)),0) else if x.d≠r.d then ([],20) else (l,0):=by
   rw [recAdd,if_neg (by simpa using h0)]
  have Hst:=Qh hst;clear hst
  obtain ⟨i,hi⟩:∃i,recIndex l (recKey r)=i:=⟨_,rfl⟩
  rw [hi] at hil
  have Hi:=Qh hi;clear hi
  go_enter Tryz.func35,Tryz.ntmps35
  go_wp2_with fail
  refine (Xe6 r Hr.out _).mono ?_
  rintro e w1 ⟨rfl,hb1⟩
  rw [h0]
  obtain ⟨hx0,hx1,hx2⟩:=Xia rfl hb1
  have hb1':Below w.heap.size w w1:=((Qb _ _).alloc (Qn _) _).trans (hb1.mono (by simp))
  have hw1:Ok I w1:=hw.below (Qn _) hb1'
  have hz1:w.heap.size<w1.heap.size:=by have:=hb1.size;simp at this;omega
  clear hb1
  go_wp2_with fail
  refine (Xdb I hI r Hr.out _ hw1).mono ?_
  rintro e w2 ⟨rfl,hb2⟩
  have hw2:Ok I w2:=hw1.below (Qn _) hb2
  go_wp2_with fail
  refine (Xrp I hI _ l Hv.out Hl.out hn _ _ hw2).mono ?_
  rintro e w3 ⟨rfl,hb3⟩
  have hw3:Ok I w3:=hw2.below (Qn _) hb3
  have hb13:Below w1.heap.size w1 w3:=hb2.trans (hb3.mono hb2.size)
  have hy0:w3.cell? ⟨w.heap.size,0,none⟩=some (.int .u32 r.a):=(hb13.cell hz1).trans hx0
  have hy1:w3.cell? ⟨w.heap.size,1,none⟩=some (.int .i64 r.s):=(hb13.cell hz1).trans hx1
  have hy2:w3.cell? ⟨w.heap.size,2,none⟩=some (S r.d):=(hb13.cell hz1).trans hx2
  have hb3':Below w.heap.size w w3:=hb1'.trans (hb13.mono hb1'.size)
  have hz3:w.heap.size<w3.heap.size:=by have:=hb13.size;omega
  clear hb2 hb3 hb13 hx0 hx1 hx2 hb1' hw1 hw2 hz1
  rw [Hi.out]
  by_cases he:i=l.length
  ·have hd1:((i:Int)==(l.length:Int))=true:=by rw [he];simp
   have Hfin:=Qh (show recAdd l r=(l.take l.length++r::l.drop l.length,0) by rw [Hst.out,Hi.out,he];simp)
   go_wp2_with fail
   refine wp_region_quiet_below (by kernel_rfl) (by kernel_rfl) ?_
   repeat (go_big_quiet_step ((fail)))
   refine wpQuiet_nil ?_
   intro w4 hwq
   have hb4:Below (w3).heap.size (w3) w4:=by
    obtain ⟨pq,rfl⟩:=hwq
    exact below_regrown _ _ _
   clear hwq
   go_wp2_with fail
   have hw4:Ok I w4:=hw3.below (Qn _) hb4
   have hz4:w.heap.size<w4.heap.size:=by have:=hb4.size;omega
   have hc0:w4.cell? ⟨w.heap.size,0,none⟩=some (.int .u32 r.a):=(hb4.cell hz3).trans hy0
   have hc1:w4.cell? ⟨w.heap.size,1,none⟩=some (.int .i64 r.s):=(hb4.cell hz3).trans hy1
   have hc2:w4.cell? ⟨w.heap.size,2,none⟩=some (S r.d):=(hb4.cell hz3).trans hy2
   go_region_with (first
    |(go_at_call 71;refine (Xgw I _ l Hv.out _ (by repeat (first|exact hw4|refine Ok.drew ?_|refine Ok.alloc ?_ _)) (by omega)).mono ?_;rintro e w5 ⟨v5,rfl,hown5,hb5⟩;have hq0:w5.cell? ⟨w.heap.size,0,none⟩=some (.int .u32 r.a):=Xaa hb5 (by first|exact hc0|exact Xab _ hc0);have hq1:w5.cell? ⟨w.heap.size,1,none⟩=some (.int .i64 r.s):=Xaa hb5 (by first|exact hc1|exact Xab _ hc1);have hq2:w5.cell? ⟨w.heap.size,2,none⟩=some (S r.d):=Xaa hb5 (by first|exact hc2|exact Xab _ hc2))
    |(go_at_call 70;refine (Xh9 I w4.heap.size v5 l r _ l.length 57 [.int .u32 r.a,.int .i64 r.s,S r.d] _ (by first|exact (hown5.alloc _).lower (by simp)|exact hown5.lower (by simp)) rfl (by first|exact heap_alloc_new _ _|exact (hb5.block _ (by simp)).trans (heap_alloc_new w4 _)) (by first|exact hown5.ne_ge (Qn _)|exact hown5.ne_lt (by simp)) (by omega) (by omega) (by have:=hb5.size;simp at this ⊢;omega)).mono ?_;rintro e w6 ⟨v6,rfl,hown6,hg6⟩;have hb6:Below w4.heap.size w4 w6:=(by first|exact ((((Qb _ w4).drew.trans (hb5.mono (by simp))).alloc hb5.size _).grown hg6 (by have:=hb5.size;simp at this ⊢;omega) (fun k hk=>by have:=hown5.own_ge hk;simpa using this))|exact ((((Qb _ w4).drew.alloc (by simp) _).trans (hb5.mono (by simp))).grown hg6 (by have:=hb5.size;simp at this ⊢;omega) (fun k hk=>by have:=hown5.own_ge hk;simp at this;omega)));clear hg6 hb5 hown5 hq0 hq1 hq2))
   all_goals
    go_wp2
    go_ret2
    obtain ⟨I',hI1,hI2,hI3,_⟩:=hown6.freeze (hw4.below (Qn _) hb6) (fun b hb=>hw4.fresh hb)
    rw [Hfin.out]
    exact ⟨v6,I',rfl,hb3'.trans ((hb4.mono hb3'.size).trans (hb6.mono (Nat.le_trans hb3'.size hb4.size))),hI1.mono (Nat.le_trans hb3'.size hb4.size),hI2,hI3⟩
  ·have hlt:i<l.length:=by omega
   have hd1:((i:Int)==(l.length:Int))=false:=by rw [beq_eq_false_iff_ne];omega
   obtain ⟨x,b,off,cap',hx,hvv,hp0,hp1,hp2⟩:=recAt Hv.out hw3 i hlt
   cases hvv
   have Hlx:=Qh (show l[i]? =some x by rw [List.getElem?_eq_getElem hlt,hx])
   have Hxw:=Qh (Hl.out x (by rw [←hx];exact List.getElem_mem hlt))
   clear hx
   have hu0:=cell_regrown hp0
   have hu1:=cell_regrown hp1
   have hu2:=cell_regrown hp2
   have ht0:=cell_regrown hy0
   have ht1:=cell_regrown hy1
   have ht2:=cell_regrown hy2
   have hj:(i:Int).toNat=i:=by simp
   by_cases hk:recKey x=recKey r
   ·have hd2:(recKey x==recKey r)=true:=by simpa using hk
    go_wp2_with fail
    refine wp_region_quiet_below (by kernel_rfl) (by kernel_rfl) ?_
    repeat (go_big_quiet_step ((with_reducible first|exact Calls.regrown_of (Xdb I hI x Hxw.out _ (hw3.below (Qn _) (below_regrown _ _ _)))|exact Calls.regrown_of (Xdb I hI r Hr.out _ (hw3.below (Qn _) (below_regrown _ _ _))))))
    refine wpQuiet_nil ?_
    intro w4 hwq
    have hb4:Below (w3).heap.size (w3) w4:=by
     obtain ⟨pq,rfl⟩:=hwq
     exact below_regrown _ _ _
    clear hwq
    go_wp2_with fail
    have hw4:Ok I w4:=hw3.below (Qn _) hb4
    have hb4':Below w.heap.size w w4:=hb3'.trans (hb4.mono hb3'.size)
    have hs0:=cell_regrown (Xaa hb4 hp2)
    have hs1:=cell_regrown (Xaa hb4 hy2)
    by_cases hdd:x.d=r.d
    ·have hd3:(x.d==r.d)=true:=by simpa using hdd
     have Hfin:=Qh (show recAdd l r=(l,0) by rw [Hst.out,Hi.out,Hlx.out];simp [hk,hdd])
     clear hk hdd
     refine wp_region_quiet_below (by kernel_rfl) (by kernel_rfl) ?_
     repeat (go_big_quiet_step ((fail)))
     refine wpQuiet_nil ?_
     intro w5 hwq
     have hb5:Below (w4).heap.size (w4) w5:=by
      obtain ⟨pq,rfl⟩:=hwq
      exact below_regrown _ _ _
     clear hwq
     have hw5:Ok I w5:=hw4.below (Qn _) hb5
     go_wp2_with fail
     refine (Xgw I _ l Hv.out _ hw5 (by omega)).mono ?_
     rintro e w6 ⟨v6,rfl,hown6,hb6⟩
     go_wp2
     go_ret2
     obtain ⟨I',hI1,hI2,hI3,_⟩:=hown6.freeze (hw5.below (Qn _) hb6) (fun b hb=>hw5.fresh hb)
     rw [Hfin.out]
     exact ⟨v6,I',rfl,hb4'.trans ((hb5.mono hb4'.size).trans (hb6.mono (Nat.le_trans hb4'.size hb5.size))),hI1.mono (Nat.le_trans hb4'.size hb5.size),hI2,hI3⟩
    ·have hd3:(x.d==r.d)=false:=by simpa using hdd
     have Hfin:=Qh (show recAdd l r=([],20) by rw [Hst.out,Hi.out,Hlx.out];simp [hk,hdd])
     clear hk hdd
     refine wp_region_quiet_below (by kernel_rfl) (by kernel_rfl) ?_
     repeat (go_big_quiet_step ((fail)))
     refine wpQuiet_nil ?_
     intro w5 hwq
     have hb5:Below (w4).heap.size (w4) w5:=by
      obtain ⟨pq,rfl⟩:=hwq
      exact below_regrown _ _ _
     clear hwq
     go_wp2
     go_ret2
     have hb5':=hb4'.trans (hb5.mono hb4'.size)
     rw [Hfin.out]
     exact ⟨_,I,rfl,hb5',Ext.refl _ _,hw.below (Qn _) hb5',RdS.nil _ _⟩
   ·have hd2:(recKey x==recKey r)=false:=by simpa using hk
    have Hfin:=Qh (show recAdd l r=(l.take i++r::l.drop i,0) by rw [Hst.out,Hi.out,Hlx.out];simp [hk])
    go_wp2_with fail
    refine wp_region_quiet_below (by kernel_rfl) (by kernel_rfl) ?_
    repeat (go_big_quiet_step ((with_reducible first|exact Calls.regrown_of (Xdb I hI x Hxw.out _ (hw3.below (Qn _) (below_regrown _ _ _)))|exact Calls.regrown_of (Xdb I hI r Hr.out _ (hw3.below (Qn _) (below_regrown _ _ _))))))
    refine wpQuiet_nil ?_
    intro w4 hwq
    have hb4:Below (w3).heap.size (w3) w4:=by
     obtain ⟨pq,rfl⟩:=hwq
     exact below_regrown _ _ _
    clear hwq
    go_wp2_with fail
    have hw4:Ok I w4:=hw3.below (Qn _) hb4
    have hz4:w.heap.size<w4.heap.size:=by have:=hb4.size;omega
    have hc0:w4.cell? ⟨w.heap.size,0,none⟩=some (.int .u32 r.a):=(hb4.cell hz3).trans hy0
    have hc1:w4.cell? ⟨w.heap.size,1,none⟩=some (.int .i64 r.s):=(hb4.cell hz3).trans hy1
    have hc2:w4.cell? ⟨w.heap.size,2,none⟩=some (S r.d):=(hb4.cell hz3).trans hy2
    go_region_with (first
     |(go_at_call 71;refine (Xgw I _ l Hv.out _ (by repeat (first|exact hw4|refine Ok.drew ?_|refine Ok.alloc ?_ _)) (by omega)).mono ?_;rintro e w5 ⟨v5,rfl,hown5,hb5⟩;have hq0:w5.cell? ⟨w.heap.size,0,none⟩=some (.int .u32 r.a):=Xaa hb5 (by first|exact hc0|exact Xab _ hc0);have hq1:w5.cell? ⟨w.heap.size,1,none⟩=some (.int .i64 r.s):=Xaa hb5 (by first|exact hc1|exact Xab _ hc1);have hq2:w5.cell? ⟨w.heap.size,2,none⟩=some (S r.d):=Xaa hb5 (by first|exact hc2|exact Xab _ hc2))
     |(go_at_call 70;refine (Xh9 I w4.heap.size v5 l r _ i 57 [.int .u32 r.a,.int .i64 r.s,S r.d] _ (by first|exact (hown5.alloc _).lower (by simp)|exact hown5.lower (by simp)) rfl (by first|exact heap_alloc_new _ _|exact (hb5.block _ (by simp)).trans (heap_alloc_new w4 _)) (by first|exact hown5.ne_ge (Qn _)|exact hown5.ne_lt (by simp)) (by omega) (by omega) (by have:=hb5.size;simp at this ⊢;omega)).mono ?_;rintro e w6 ⟨v6,rfl,hown6,hg6⟩;have hb6:Below w4.heap.size w4 w6:=(by first|exact ((((Qb _ w4).drew.trans (hb5.mono (by simp))).alloc hb5.size _).grown hg6 (by have:=hb5.size;simp at this ⊢;omega) (fun k hk=>by have:=hown5.own_ge hk;simpa using this))|exact ((((Qb _ w4).drew.alloc (by simp) _).trans (hb5.mono (by simp))).grown hg6 (by have:=hb5.size;simp at this ⊢;omega) (fun k hk=>by have:=hown5.own_ge hk;simp at this;omega)));clear hg6 hb5 hown5 hq0 hq1 hq2))
    all_goals
     go_wp2
     go_ret2
     obtain ⟨I',hI1,hI2,hI3,_⟩:=hown6.freeze (hw4.below (Qn _) hb6) (fun b hb=>hw4.fresh hb)
     rw [Hfin.out]
     exact ⟨v6,I',rfl,hb3'.trans ((hb4.mono hb3'.size).trans (hb6.mono (Nat.le_trans hb3'.size hb4.size))),hI1.mono (Nat.le_trans hb3'.size hb4.size),hI2,hI3⟩
 ·obtain ⟨q,hq⟩:∃q,recValid r=q:=⟨_,rfl⟩
  have hn0:(q != 0)=true:=by rw [←hq];simpa using h0
  have Hst:=Qh (show recAdd l r=([],q) by rw [recAdd,if_pos h0,hq])
  have Hq:=Qh hq;clear hq h0
  go_enter Tryz.func35,Tryz.ntmps35
  go_wp2_with fail
  refine (Xe6 r Hr.out _).mono ?_
  rintro e w1 ⟨rfl,hb1⟩
  rw [Hq.out]
  go_wp2
  go_ret2
  have hb1':Below w.heap.size w w1:=((Qb _ _).alloc (Qn _) _).trans (hb1.mono (by simp))
  rw [Hst.out]
  exact ⟨_,I,rfl,hb1',Ext.refl _ _,hw.below (Qn _) hb1',RdS.nil _ _⟩
def strGt (a b:Bytes):Bool:= !(Op.bytesLess a b)&& !(a==b)
def refAddGo (r:Rec):Bool→List Rec→List Rec→List Rec × Int
 |done,out,[]=>(if done then out else out++ [r],0)
 |done,out,x::l=>
  if recKey x=recKey r then (if x.d=r.d then refAddGo r true (out++ [x]) l else ([],20))
  else if !done&&strGt (recKey x) (recKey r) then refAddGo r true (out++ [r]++ [x]) l
  else refAddGo r done (out++ [x]) l
def refAdd (l:List Rec) (r:Rec):List Rec × Int:=if recValid r≠0 then ([],recValid r) else refAddGo r false [] l
theorem Xdw:ElemOk Tryz.prog 52 57 tRec 32:=ElemOk.of Tryz.underlying52 Xbo rfl (by decide) rfl
set_option maxRecDepth 100000 in
set_option maxHeartbeats 1000000 in
theorem Xp3 (I:IH) (v:Value) (l:List Rec) (hv:RdS tRec I v l) (hl:∀r∈l,r.Wf) (hn:l.length≤1000000) (r:Rec) (hr:r.Wf) (w:World) (hw:Ok I w):
 Calls Tryz.prog 44 #[v,r.v] w (RetL tRec I w (refAdd l r).1 (refAdd l r).2):=by
 obtain ⟨ao,cap,rfl,hcap,hcm,_⟩:=id hv
 have Hv:=Qh hv;clear hv
 have Hl:=Qh hl;clear hl
 have Hr:=Qh hr;clear hr
 by_cases h0:recValid r=0
 ·have Hst:=Qh (show refAdd l r=refAddGo r false [] l by rw [refAdd,if_neg (by simpa using h0)])
  go_enter Tryz.func44,Tryz.ntmps44
  go_wp2_with fail
  refine (Xed r Hr.out _).mono ?_
  rintro e w1 ⟨rfl,hb1⟩
  rw [h0]
  obtain ⟨hx0,hx1,hx2⟩:=Xia rfl hb1
  have hb1':Below w.heap.size w w1:=((Qb _ _).alloc (Qn _) _).trans (hb1.mono (by simp))
  have hw1:Ok I w1:=hw.below (Qn _) hb1'
  have hz1:w.heap.size<w1.heap.size:=by have:=hb1.size;simp at this;omega
  clear hb1 h0
  go_wp2_with fail
  go_loopw [7,8,19] (fun s7 s8 s19 wr=> ∃(k:Nat) (out:List Rec) (d:Bool),k≤l.length∧s8= .bool d∧s19= .int .i64 k∧OwnS tRec 57 I wr w1.heap.size s7 out∧out.length≤2*k∧refAddGo r d out (l.drop k)=refAdd l r∧Below w1.heap.size w1 wr) (fun _ _ i _=>l.length-(intOf i).toNat)
  case atStart=>
   refine ⟨0,[],false,Nat.zero_le _,rfl,rfl,?_,by simp,Hst.out.symm,(Qb _ _).alloc (Qn _) _⟩
   exact ⟨[],World.ownsRow_made w1 #[] 0 (Qn _) (Nat.zero_le _) (by simp),LiesL.nil _ _⟩
  case round=>
   obtain ⟨k,out,d,hk,rfl,rfl,hown,hol,hrr,hb⟩:=hrel
   have Hrr:=Qh hrr;clear hrr
   by_cases hlt:k<l.length
   ·have hwr:Ok I wr:=hw1.below (Qn _) hb
    obtain ⟨x,b,off,cap',hlx,hvv,hc0,hc1,hc2⟩:=recAt Hv.out hwr k hlt
    cases hvv
    have Hxw:=Qh (Hl.out x (by rw [←hlx];exact List.getElem_mem hlt))
    have hst:refAdd l r=if recKey x=recKey r then (if x.d=r.d then refAddGo r true (out++ [x]) (l.drop (k+1)) else ([],20))
     else if !d&&strGt (recKey x) (recKey r) then refAddGo r true (out++ [r]++ [x]) (l.drop (k+1)) else refAddGo r d (out++ [x]) (l.drop (k+1)):=by
     rw [←Hrr.out,List.drop_eq_getElem_cons hlt,hlx];rfl
    have Hst2:=Qh hst;clear hst hlx
    have hr0:wr.cell? ⟨w.heap.size,0,none⟩=some (.int .u32 r.a):=Xaa hb hx0
    have hr1:wr.cell? ⟨w.heap.size,1,none⟩=some (.int .i64 r.s):=Xaa hb hx1
    have hr2:wr.cell? ⟨w.heap.size,2,none⟩=some (S r.d):=Xaa hb hx2
    have hg0:=cell_regrown (show (wr.alloc (.cells #[.int .u32 x.a,.int .i64 x.s,S x.d] 57)).cell? ⟨wr.heap.size,0,none⟩=some (.int .u32 x.a) by simp)
    have hg1:=cell_regrown (show (wr.alloc (.cells #[.int .u32 x.a,.int .i64 x.s,S x.d] 57)).cell? ⟨wr.heap.size,1,none⟩=some (.int .i64 x.s) by simp)
    have hg2:=cell_regrown (show (wr.alloc (.cells #[.int .u32 x.a,.int .i64 x.s,S x.d] 57)).cell? ⟨wr.heap.size,2,none⟩=some (S x.d) by simp)
    have hs0:=cell_regrown (Xab (.cells #[.int .u32 x.a,.int .i64 x.s,S x.d] 57) hr0)
    have hs1:=cell_regrown (Xab (.cells #[.int .u32 x.a,.int .i64 x.s,S x.d] 57) hr1)
    have hs2:=cell_regrown (Xab (.cells #[.int .u32 x.a,.int .i64 x.s,S x.d] 57) hr2)
    have hown1:=hown.alloc (.cells #[.int .u32 x.a,.int .i64 x.s,S x.d] 57)
    by_cases hk:recKey x=recKey r
    ·have hd2:(recKey x==recKey r)=true:=by simpa using hk
     go_wp2_with fail
     refine wp_region_quiet_below (by kernel_rfl) (by kernel_rfl) ?_
     repeat (go_big_quiet_step ((with_reducible first|exact Calls.regrown_of (Xb3 x Hxw.out _)|exact Calls.regrown_of (Xb3 r Hr.out _))))
     refine wpQuiet_nil ?_
     intro w4 hwq
     have hb4:Below (wr.alloc (.cells #[.int .u32 x.a,.int .i64 x.s,S x.d] 57)).heap.size (wr.alloc (.cells #[.int .u32 x.a,.int .i64 x.s,S x.d] 57)) w4:=by
      obtain ⟨pq,rfl⟩:=hwq
      exact below_regrown _ _ _
     clear hwq
     have hb4':Below w1.heap.size w1 w4:=(hb.alloc hb.size _).trans (hb4.mono (by have:=hb.size;simp;omega))
     obtain ⟨hx0',hx1',hx2'⟩:=Xia rfl hb4
     have hr0':=Xaa hb4 (Xab _ hr0)
     have hr1':=Xaa hb4 (Xab _ hr1)
     have hr2':=Xaa hb4 (Xab _ hr2)
     have hown4:=hown1.below hb4
     by_cases hdd:x.d=r.d
     ·have hd3:(x.d==r.d)=true:=by simpa using hdd
      have Hfin:=Qh (show refAddGo r true (out++ [x]) (l.drop (k+1))=refAdd l r by rw [Hst2.out,if_pos hk,if_pos hdd])
      clear hk hdd
      go_wp2_with fail
      refine wp_region_quiet_below (by kernel_rfl) (by kernel_rfl) ?_
      repeat (go_big_quiet_step ((fail)))
      refine wpQuiet_nil ?_
      intro w6 hwq
      have hb6:Below (w4).heap.size (w4) w6:=by
       obtain ⟨pq,rfl⟩:=hwq
       exact below_regrown _ _ _
      clear hwq
      have hb6':Below w1.heap.size w1 w6:=hb4'.trans (hb6.mono hb4'.size)
      have hr0'':=Xaa hb6 hx0'
      have hr1'':=Xaa hb6 hx1'
      have hr2'':=Xaa hb6 hx2'
      have hown6:=hown4.below hb6
      go_wp2_with (at_builtin;refine Xau (w0:=w6) Xdw rfl _ _ rfl _ _ _ rfl hown6 x [.int .u32 x.a,.int .i64 x.s,S x.d] _ rfl rfl (by (try simp only [List.length_append,List.length_singleton]);omega) (by (try simp only [List.length_append,List.length_singleton]);omega) (Below.size hb6') ?_)
      intro v5 w5 hown5 hg5
      have hb5:=Below.own hb6' hg5 hown6 (Qn _) (Below.size hb6')
      go_wp2
      go_roundw
      case rel=>exact ⟨k+1,_,true,by omega,rfl,by go_num,hown5,(by simp only [List.length_append,List.length_cons,List.length_nil];omega),Hfin.out,hb5⟩
      case measure=>simp [intOf];omega
     ·have hd3:(x.d==r.d)=false:=by simpa using hdd
      have Hfin:=Qh (show refAdd l r=([],20) by rw [Hst2.out,if_pos hk,if_neg hdd])
      clear hk hdd
      go_wp2
      go_ret2
      have hb4'':=hb1'.trans (hb4'.mono hb1'.size)
      rw [Hfin.out]
      exact ⟨_,I,rfl,hb4'',Ext.refl _ _,hw.below (Qn _) hb4'',RdS.nil _ _⟩
    ·have hd2:(recKey x==recKey r)=false:=by simpa using hk
     go_wp2_with fail
     refine wp_region_quiet_below (by kernel_rfl) (by kernel_rfl) ?_
     repeat (go_big_quiet_step ((with_reducible first|exact Calls.regrown_of (Xb3 x Hxw.out _)|exact Calls.regrown_of (Xb3 r Hr.out _))))
     refine wpQuiet_nil ?_
     intro w4 hwq
     have hb4:Below (wr.alloc (.cells #[.int .u32 x.a,.int .i64 x.s,S x.d] 57)).heap.size (wr.alloc (.cells #[.int .u32 x.a,.int .i64 x.s,S x.d] 57)) w4:=by
      obtain ⟨pq,rfl⟩:=hwq
      exact below_regrown _ _ _
     clear hwq
     have hb4':Below w1.heap.size w1 w4:=(hb.alloc hb.size _).trans (hb4.mono (by have:=hb.size;simp;omega))
     obtain ⟨hx0',hx1',hx2'⟩:=Xia rfl hb4
     have hr0':=Xaa hb4 (Xab _ hr0)
     have hr1':=Xaa hb4 (Xab _ hr1)
     have hr2':=Xaa hb4 (Xab _ hr2)
     have hown4:=hown1.below hb4
     cases d with
     |true=>
      have Hfin:=Qh (show refAddGo r true (out++ [x]) (l.drop (k+1))=refAdd l r by rw [Hst2.out,if_neg hk];rfl)
      clear hk
      go_wp2_with fail
      refine wp_region_quiet_below (by kernel_rfl) (by kernel_rfl) ?_
      repeat (go_big_quiet_step ((fail)))
      refine wpQuiet_nil ?_
      intro w6 hwq
      have hb6:Below (w4).heap.size (w4) w6:=by
       obtain ⟨pq,rfl⟩:=hwq
       exact below_regrown _ _ _
      clear hwq
      have hb6':Below w1.heap.size w1 w6:=hb4'.trans (hb6.mono hb4'.size)
      have hr0'':=Xaa hb6 hx0'
      have hr1'':=Xaa hb6 hx1'
      have hr2'':=Xaa hb6 hx2'
      have hown6:=hown4.below hb6
      go_wp2_with (at_builtin;refine Xau (w0:=w6) Xdw rfl _ _ rfl _ _ _ rfl hown6 x [.int .u32 x.a,.int .i64 x.s,S x.d] _ rfl rfl (by (try simp only [List.length_append,List.length_singleton]);omega) (by (try simp only [List.length_append,List.length_singleton]);omega) (Below.size hb6') ?_)
      intro v5 w5 hown5 hg5
      have hb5:=Below.own hb6' hg5 hown6 (Qn _) (Below.size hb6')
      go_wp2
      go_roundw
      case rel=>exact ⟨k+1,_,true,by omega,rfl,by go_num,hown5,(by simp only [List.length_append,List.length_cons,List.length_nil];omega),Hfin.out,hb5⟩
      case measure=>simp [intOf];omega
     |false=>
      have hp0:=cell_regrown hx0'
      have hp1:=cell_regrown hx1'
      have hp2:=cell_regrown hx2'
      have ho0:=cell_regrown hr0'
      have ho1:=cell_regrown hr1'
      have ho2:=cell_regrown hr2'
      cases hbl:Op.bytesLess (recKey x) (recKey r) with
      |false=>
       have hgt:strGt (recKey x) (recKey r)=true:=by rw [strGt,hbl,hd2];rfl
       have Hfin:=Qh (show refAddGo r true (out++ [r,x]) (l.drop (k+1))=refAdd l r by rw [Hst2.out,if_neg hk,hgt,List.append_assoc];rfl)
       clear hk hgt
       go_wp2_with fail
       refine wp_region_quiet_below (by kernel_rfl) (by kernel_rfl) ?_
       repeat (go_big_quiet_step ((with_reducible first|exact Calls.regrown_of (Xb3 x Hxw.out _)|exact Calls.regrown_of (Xb3 r Hr.out _))))
       refine wpQuiet_nil ?_
       intro w6 hwq
       have hb6:Below (w4).heap.size (w4) w6:=by
        obtain ⟨pq,rfl⟩:=hwq
        exact below_regrown _ _ _
       clear hwq
       have hb6':Below w1.heap.size w1 w6:=hb4'.trans (hb6.mono hb4'.size)
       have hr0'':=Xaa hb6 hr0'
       have hr1'':=Xaa hb6 hr1'
       have hr2'':=Xaa hb6 hr2'
       have hx0'':=Xaa hb6 hx0'
       have hx1'':=Xaa hb6 hx1'
       have hx2'':=Xaa hb6 hx2'
       have hown6:=hown4.below hb6
       have hnx:=hown.ne_ge (Qn _)
       go_wp2_with (at_builtin;refine Xau (w0:=w6) Xdw rfl _ _ rfl _ _ _ rfl hown6 r [.int .u32 r.a,.int .i64 r.s,S r.d] _ rfl rfl (by (try simp only [List.length_append,List.length_singleton]);omega) (by (try simp only [List.length_append,List.length_singleton]);omega) hb6'.size ?_)
       intro v7 w7 hown7 hg7
       have hb7:=Below.own hb6' hg7 hown6 (Qn _) hb6'.size
       have hz0:=Xah hg7 hnx hx0''
       have hz1:=Xah hg7 hnx hx1''
       have hz2:=Xah hg7 hnx hx2''
       go_wp2_with (at_builtin;refine Xau (w0:=w7) Xdw rfl _ _ rfl _ _ _ rfl hown7 x [.int .u32 x.a,.int .i64 x.s,S x.d] _ rfl rfl (by (try simp only [List.length_append,List.length_singleton]);omega) (by (try simp only [List.length_append,List.length_singleton]);omega) (Below.size hb7) ?_)
       intro v5 w5 hown5 hg5
       have hb5:=Below.own hb7 hg5 hown7 (Qn _) (Below.size hb7)
       go_wp2
       go_roundw
       case rel=>exact ⟨k+1,_,true,by omega,rfl,by go_num,hown5,(by simp only [List.length_append,List.length_cons,List.length_nil];omega),Hfin.out,hb5⟩
       case measure=>simp [intOf];omega
      |true=>
       have hgt:strGt (recKey x) (recKey r)=false:=by rw [strGt,hbl];rfl
       have Hfin:=Qh (show refAddGo r false (out++ [x]) (l.drop (k+1))=refAdd l r by rw [Hst2.out,if_neg hk,hgt];rfl)
       clear hk hgt
       go_wp2_with fail
       refine wp_region_quiet_below (by kernel_rfl) (by kernel_rfl) ?_
       repeat (go_big_quiet_step ((with_reducible first|exact Calls.regrown_of (Xb3 x Hxw.out _)|exact Calls.regrown_of (Xb3 r Hr.out _))))
       refine wpQuiet_nil ?_
       intro w6 hwq
       have hb6:Below (w4).heap.size (w4) w6:=by
        obtain ⟨pq,rfl⟩:=hwq
        exact below_regrown _ _ _
       clear hwq
       have hb6':Below w1.heap.size w1 w6:=hb4'.trans (hb6.mono hb4'.size)
       have hr0'':=Xaa hb6 hr0'
       have hr1'':=Xaa hb6 hr1'
       have hr2'':=Xaa hb6 hr2'
       have hx0'':=Xaa hb6 hx0'
       have hx1'':=Xaa hb6 hx1'
       have hx2'':=Xaa hb6 hx2'
       have hown6:=hown4.below hb6
       go_wp2_with (at_builtin;refine Xau (w0:=w6) Xdw rfl _ _ rfl _ _ _ rfl hown6 x [.int .u32 x.a,.int .i64 x.s,S x.d] _ rfl rfl (by (try simp only [List.length_append,List.length_singleton]);omega) (by (try simp only [List.length_append,List.length_singleton]);omega) (Below.size hb6') ?_)
       intro v5 w5 hown5 hg5
       have hb5:=Below.own hb6' hg5 hown6 (Qn _) (Below.size hb6')
       go_wp2
       go_roundw
       case rel=>exact ⟨k+1,_,false,by omega,rfl,by go_num,hown5,(by simp only [List.length_append,List.length_cons,List.length_nil];omega),Hfin.out,hb5⟩
       case measure=>simp [intOf];omega
   ·have hlk:l.drop k= []:=List.drop_of_length_le (by omega)
    cases d with
    |true=>
     have Hfin:=Qh (show refAdd l r=(out,0) by rw [←Hrr.out,hlk];rfl)
     clear hlk
     go_wp2_with fail
     go_ret2
     obtain ⟨I',hI1,hI2,hI3,_⟩:=hown.freeze (hw1.below (Qn _) hb) (fun b hb=>hw1.fresh hb)
     rw [Hfin.out]
     exact ⟨_,I',rfl,hb1'.trans (hb.mono hb1'.size),hI1.mono hb1'.size,hI2,hI3⟩
    |false=>
     have Hfin:=Qh (show refAdd l r=(out++ [r],0) by rw [←Hrr.out,hlk];rfl)
     clear hlk
     have hr0:wr.cell? ⟨w.heap.size,0,none⟩=some (.int .u32 r.a):=Xaa hb hx0
     have hr1:wr.cell? ⟨w.heap.size,1,none⟩=some (.int .i64 r.s):=Xaa hb hx1
     have hr2:wr.cell? ⟨w.heap.size,2,none⟩=some (S r.d):=Xaa hb hx2
     go_wp2_with (at_builtin;refine Xau (w0:=wr) Xdw rfl _ _ rfl _ _ _ rfl hown r [.int .u32 r.a,.int .i64 r.s,S r.d] _ rfl rfl (by (try simp only [List.length_append,List.length_singleton]);omega) (by (try simp only [List.length_append,List.length_singleton]);omega) hb.size ?_)
     intro v5 w5 hown5 hg5
     have hb5:=Below.own hb hg5 hown (Qn _) hb.size
     go_wp2
     go_ret2
     obtain ⟨I',hI1,hI2,hI3,_⟩:=hown5.freeze (hw1.below (Qn _) hb5) (fun b hb=>hw1.fresh hb)
     rw [Hfin.out]
     exact ⟨v5,I',rfl,hb1'.trans (hb5.mono hb1'.size),hI1.mono hb1'.size,hI2,hI3⟩
 ·obtain ⟨q,hq⟩:∃q,recValid r=q:=⟨_,rfl⟩
  have hn0:(q != 0)=true:=by rw [←hq];simpa using h0
  have Hst:=Qh (show refAdd l r=([],q) by rw [refAdd,if_pos h0,hq])
  have Hq:=Qh hq;clear hq h0
  go_enter Tryz.func44,Tryz.ntmps44
  go_wp2_with fail
  refine (Xed r Hr.out _).mono ?_
  rintro e w1 ⟨rfl,hb1⟩
  rw [Hq.out]
  go_wp2
  go_ret2
  have hb1':Below w.heap.size w w1:=((Qb _ _).alloc (Qn _) _).trans (hb1.mono (by simp))
  rw [Hst.out]
  exact ⟨_,I,rfl,hb1',Ext.refl _ _,hw.below (Qn _) hb1',RdS.nil _ _⟩
theorem Xm3 (a b:Bytes):strGt a b=Op.bytesLess b a:=by
 rw [strGt]
 rcases Xdc a b with h|h|h
 ·rw [h,Xcs h];rfl
 ·subst h;rw [Xbr];simp
 ·rw [Xcs h,h]
  have:(a==b)=false:=beq_eq_false_iff_ne.2 (Xju h).symm
  rw [this];rfl
def Rises (l:List Rec):Prop:=l.Pairwise fun a b=>Op.bytesLess (recKey a) (recKey b)=true
theorem Xew {l:List Rec} (h:Rises l) (key:Bytes):(∀r∈l.take (recIndex l key),Op.bytesLess (recKey r) key=true)∧(∀r∈l.drop (recIndex l key),Op.bytesLess (recKey r) key=false):=by
 obtain ⟨h1,h2⟩:=Xrs (fun i=>(l[i]?).all fun r=> !(Op.bytesLess (recKey r) key)) 0 l.length (Nat.zero_le _)
 have hle:=Xc8 l key
 change (0<recIndex l key→_) at h1
 change (recIndex l key<l.length→_) at h2
 have hs:=List.pairwise_iff_getElem.1 h
 constructor
 ·intro r hr
  obtain ⟨i,hi,rfl⟩:=List.getElem_of_mem hr
  rw [List.getElem_take]
  simp at hi
  have h3:=h1 (by omega)
  change Option.all _ l[recIndex l key-1]? =false at h3
  rw [List.getElem?_eq_getElem (by omega)] at h3
  simp at h3
  by_cases he:i=recIndex l key-1
  ·subst he;exact h3
  ·exact Xd4 (hs i (recIndex l key-1) (by omega) (by omega) (by omega)) h3
 ·intro r hr
  obtain ⟨i,hi,rfl⟩:=List.getElem_of_mem hr
  rw [List.getElem_drop]
  simp at hi
  have h3:=h2 (by omega)
  change Option.all _ l[recIndex l key]? =true at h3
  rw [List.getElem?_eq_getElem (by omega)] at h3
  simp at h3
  by_cases he:i=0
  ·subst he;exact h3
  ·cases hb:Op.bytesLess (recKey l[recIndex l key+i]) key with
   |false=>rfl
   |true=>
    have:=Xd4 (hs (recIndex l key) (recIndex l key+i) (by omega) (by omega) (by omega)) hb
    rw [this] at h3;exact absurd h3 (by simp)
theorem Xes (r:Rec) (l:List Rec) (h:∀x∈l,recKey x≠recKey r):∀out,refAddGo r true out l=(out++l,0):=by
 induction l with
 |nil=>intro out;simp [refAddGo]
 |cons x l ih=>
  intro out
  rw [refAddGo,if_neg (h x (List.mem_cons_self ..))]
  simp only [Bool.not_true,Bool.false_and,Bool.false_eq_true,if_false]
  rw [ih fun y hy=>h y (List.mem_cons_of_mem _ hy),List.append_assoc];rfl
theorem Xi2 (r:Rec) (A B:List Rec) (h:∀x∈A,Op.bytesLess (recKey x) (recKey r)=true):∀out,refAddGo r false out (A++B)=refAddGo r false (out++A) B:=by
 induction A with
 |nil=>intro out;simp
 |cons x A ih=>
  intro out
  have hx:=h x (List.mem_cons_self ..)
  rw [List.cons_append,refAddGo,if_neg (Xju hx),Xm3,Xcs hx]
  simp only [Bool.and_false,Bool.false_eq_true,if_false]
  rw [ih fun y hy=>h y (List.mem_cons_of_mem _ hy),List.append_assoc];rfl
theorem Xp9 {l:List Rec} (h:Rises l) (r:Rec):recAdd l r=refAdd l r:=by
 rw [recAdd,refAdd]
 by_cases h0:recValid r=0
 ·rw [if_neg (by simpa using h0),if_neg (by simpa using h0)]
  obtain ⟨h1,h2⟩:=Xew h (recKey r)
  generalize recIndex l (recKey r)=i at h1 h2
  have e:refAddGo r false [] l=refAddGo r false (l.take i) (l.drop i):=by
   rw [←List.nil_append (l.take i),←Xi2 r (l.take i) (l.drop i) h1,List.take_append_drop]
  rw [e]
  cases hl:l[i]? with
  |none=>
   have:l.drop i= []:=List.drop_of_length_le (List.getElem?_eq_none_iff.1 hl)
   simp only [this,refAddGo];simp
  |some x=>
   obtain ⟨hi,hx⟩:=List.getElem?_eq_some_iff.1 hl
   have hd:l.drop i=x::l.drop (i+1):=by rw [List.drop_eq_getElem_cons hi,hx]
   have hrest:∀y∈l.drop (i+1),Op.bytesLess (recKey x) (recKey y)=true:=by
    have:=h.drop (i:=i)
    rw [hd,List.pairwise_cons] at this
    exact this.1
   have hx2:=h2 x (by rw [hd];exact List.mem_cons_self ..)
   simp only [hd,refAddGo]
   by_cases hk:recKey x=recKey r
   ·rw [if_neg (by simpa using hk),if_pos hk]
    by_cases hdd:x.d=r.d
    ·rw [if_neg (by simpa using hdd),if_pos hdd,Xes r _ fun y hy=> ?_]
     ·rw [List.append_assoc,List.singleton_append,←hd,List.take_append_drop]
     ·have:=Xju (hrest y hy);rw [hk] at this;exact this.symm
    ·rw [if_pos (by simpa using hdd),if_neg hdd]
   ·have hgt:Op.bytesLess (recKey r) (recKey x)=true:=by
     rcases Xdc (recKey r) (recKey x) with h|h|h
     ·exact h
     ·exact absurd h.symm hk
     ·rw [h] at hx2;exact absurd hx2 (by simp)
    rw [if_pos (by simpa using hk),if_neg hk,Xm3,hgt]
    simp only [Bool.not_false,Bool.and_self,if_true]
    rw [Xes r _ fun y hy=>(Xju (Xd4 hgt (hrest y hy))).symm]
    simp
 ·rw [if_pos (by simpa using h0),if_pos (by simpa using h0)]
def rec0:Rec:=⟨42,7,[48,49,50,51,52,53,54,55,56,57,97,98,99,100,101,102,48,49,50,51,52,53,54,55,56,57,97,98,99,100,101,102]⟩
theorem Xmd:rec0.Wf:=by unfold Rec.Wf;decide
theorem Xsu:recKey rec0= [48,48,48,48,48,48,48,48,52,50,45,48,48,55]:=by decide
theorem Xoh:recValid rec0=0:=by decide
theorem Xoi:recCheck [rec0]=0:=by decide
theorem Xm9:recAdd [] rec0=([rec0],0):=by
 have h:=Xc8 [] (recKey rec0)
 rw [recAdd,Xoh]
 simp [show recIndex [] (recKey rec0)=0 by simpa using h]
theorem Glob.keep {I I':IH} {w:World} (h:Glob I) (hw:Ok I w) (hx:Ext w.heap.size I I'):Glob I':=h.mono fun b c k=>hx.keep hw (Qn _) b c k
set_option maxRecDepth 100000 in
set_option maxHeartbeats 1000000 in
theorem Xqr (I:IH) (hI:Glob I) (w:World) (hw:Ok I w):
 Calls Tryz.prog 13 #[] w fun e w'=>e= .returned (.bool true)∧Below w.heap.size w w':=by
 go_enter Tryz.func13,Tryz.ntmps13
 go_wp2_with fail
 refine (Xrr I hI _ [] (RdS.nil _ _) (fun _ h=>absurd h (by simp)) (by simp) rec0 Xmd _ (hw.alloc _)).mono ?_
 rintro e w1 ⟨v1,I1,rfl,hb1,hx1,hok1,hr1⟩
 obtain ⟨hc0,hc1,hc2⟩:=Xia (r:=rec0) rfl hb1
 rw [Xm9] at hr1
 rw [Xm9]
 obtain ⟨ao,cap,rfl,hcap,hcm,_⟩:=id hr1
 have Hr1:=Qh hr1;clear hr1
 have hI1:=hI.keep (hw.alloc _) hx1
 have hb1':Below w.heap.size w w1:=((Qb _ _).alloc (Qn _) _).trans (hb1.mono (by simp))
 go_wp2_with fail
 refine (Xdb I1 hI1 rec0 Xmd _ hok1).mono ?_
 rintro e w2 ⟨rfl,hb2⟩
 rw [Xsu]
 have hok2:Ok I1 w2:=hok1.below (Qn _) hb2
 go_wp2_with fail
 refine (Xrq I1 hI1 _ [rec0] Hr1.out (by simpa using Xmd) _ hok2).mono ?_
 rintro e w3 ⟨rfl,hb3⟩
 rw [Xoi]
 go_wp2
 go_ret
 exact ⟨rfl,hb1'.trans ((hb2.mono hb1'.size).trans (hb3.mono (Nat.le_trans hb1'.size hb2.size)))⟩
end Go.Proofs.YtkipnpjagcfcpaaGreatDoor
namespace Go.Proofs.YtkipnpjagcfcpaaGreatDoor
theorem Xuk (s:Bytes):(sumP s).length=32:=by
 unfold sumP
 rw [List.length_map]
 exact Xqj _ (Xbd ..)
def txtA:Bytes:= [116,101,120,116]
def digA:Bytes:=sumP txtA
def yA:Ent:=⟨1,[97],[],[],4,digA,[⟨1,0,4⟩]⟩
def yR:Ent:=⟨4,[97],[],[],0,[],[]⟩
def sA:Ses:=⟨1,5,[],[yA],txtA,[]⟩
def sB:Ses:=⟨2,6,(dirDig sA).1,[yR],[],[]⟩
end Go.Proofs.YtkipnpjagcfcpaaGreatDoor
namespace Go.Proofs.YtkipnpjagcfcpaaGreatDoor
open Go.RowKit
structure SesP (x:Ses):Prop where
 prev:x.prev= []∨x.prev.length=32
 ents:x.ents.length≤400
def ArcD (L:List Ses):Prop:= ∀x∈L,SesP x
theorem Xop (L:List Ses):lastDig L= []∨(lastDig L).length=32:=by
 unfold lastDig
 split
 ·exact .inl rfl
 ·exact .inr (Xuk _)
theorem Xnx:∀ {l:List Chg} {d:Drf} (i:Nat),d.ents.length≤400→(addsP d i l).1.ents.length≤400∧(addsP d i l).1.prev=d.prev
 | [],d,i,h=>⟨h,rfl⟩
 |c::l,d,i,h=>by
  rw [addsP]
  split
  ·exact ⟨h,rfl⟩
  ·have hs:=Xny d c
   have h1:(addP d c).1.ents.length≤400:=by
    rcases Xe9 d c with ⟨_,e⟩|⟨_,_,_,h4,_,_,e⟩
    ·rw [e];exact h
    ·rw [e];simp;omega
   obtain ⟨r1,r2⟩:=Xnx (i+1) h1
   exact ⟨r1,r2.trans hs.2.2.1⟩
theorem Xt1:ArcD []:=fun _ h=>(by cases h)
theorem Xn3 {L:List Ses} (h:ArcD L) (date:Int) (l:List Chg):ArcD (wrtP L date l).1:=by
 unfold wrtP
 split
 ·exact h
 ·split
  ·exact h
  ·intro x hx
   rcases List.mem_append.1 hx with hx|hx
   ·exact h x hx
   ·rw [List.mem_singleton.1 hx]
    obtain ⟨r1,r2⟩:=Xnx (l:=l) (d:=openP L date) 0 (Nat.zero_le _)
    exact ⟨by show (addsP _ _ _).1.prev= []∨(addsP _ _ _).1.prev.length=32;rw [r2];exact Xop L,r1⟩
theorem Xik:∀ {l:List Ent},(∀e∈l,entErr e=0)→entsErr l=0
 | [],_=>rfl
 |e::l,h=>by
  rw [entsErr,if_neg (by rw [h e (List.mem_cons_self ..)];simp)]
  exact Xik fun x hx=>h x (List.mem_cons_of_mem _ hx)
theorem Xrw {n m:Nat} {L:List Ses} (h:ArcOk n m L) (hd:ArcD L) (hm:m≤200) {k:Nat} (hk:k<L.length) {x:Ses} (hx:L[k]=x):SesH x∧sesErr x=0∧x.num=(k:Nat)+1:=by
 have hmem:x∈L:=by rw [←hx];exact List.getElem_mem hk
 have hw:=h.at_ hk hx
 have hl:=h.len
 have hD:=hd x hmem
 have herr:=h.err hmem
 have h1:=hw.num
 have h2:=hw.date
 have h3:=hw.prev
 have h4:=hw.sl
 have h5:=hw.stream
 have h6:=hD.ents
 refine ⟨⟨h6,h5,by omega,by rw [h4];simp,fun e he=>Xgg (herr e he),fun e he=>(Xci (herr e he)).1,fun e he=>(Xci (herr e he)).2,hw.exts,by omega,by omega⟩,?_,h1⟩
 have hf:fldErr x=0:=by
  unfold fldErr
  rw [if_neg (by omega),if_neg]
  rintro ⟨a,b⟩
  rcases hD.prev with q|q
  ·exact a q
  ·exact b q
 unfold sesErr
 rw [if_neg (by rw [hf];simp),if_neg (by omega),if_neg (by rw [Xik herr];simp),if_neg (by rw [h4];simp)]
def recOfS (id:Nat) (x:Ses):Rec:=⟨id,x.num,sumP (sesText x)⟩
def recsOfS (id:Nat) (L:List Ses):List Rec:=L.map (recOfS id)
theorem Xlt (p a b:Bytes):Op.bytesLess (p++a) (p++b)=Op.bytesLess a b:=by
 induction p with
 |nil=>rfl
 |cons x p ih=>
  rw [List.cons_append,List.cons_append,Op.bytesLess,ih]
  have hx:decide (x<x)=false:=Qf (UInt8.lt_irrefl x)
  simp [hx]
theorem Xva:∀n<9,∀m<9,n<m→Op.bytesLess (refDigits 3 n []) (refDigits 3 m [])=true:=by decide
theorem Xcn {id:Nat} {x:Ses} (h:1≤x.num∧x.num≤255):recValid (recOfS id x)=0:=by
 unfold recValid recOfS
 dsimp only
 rw [if_neg (by omega),if_neg (by rw [Xuk];simp)]
theorem Xua {id:Nat} {x y:Ses} {i j:Nat} (hx:x.num=(i:Nat)+1) (hy:y.num=(j:Nat)+1) (hij:i<j) (hj:j<8):Op.bytesLess (recKey (recOfS id x)) (recKey (recOfS id y))=true:=by
 unfold recKey
 rw [if_pos (Xcn (by omega)),if_pos (Xcn (by omega))]
 show Op.bytesLess (refDigits 10 id []++([45]++refDigits 3 x.num.toNat [])) (refDigits 10 id []++([45]++refDigits 3 y.num.toNat []))=true
 rw [Xlt,Xlt,show x.num.toNat=i+1 by omega,show y.num.toNat=j+1 by omega]
 exact Xva _ (by omega) _ (by omega) (by omega)
theorem Xgx {A:List Rec} (h:Rises A) {r:Rec} (hr:recValid r=0) (hl:∀a∈A,Op.bytesLess (recKey a) (recKey r)=true):recAdd A r=(A++ [r],0)∧Rises (A++ [r]):=by
 have hs:=(Xew h (recKey r)).2
 have hle:=Xc8 A (recKey r)
 have hi:recIndex A (recKey r)=A.length:=by
  rcases Nat.lt_or_ge (recIndex A (recKey r)) A.length with q|q
  ·have hm:A[recIndex A (recKey r)]∈A.drop (recIndex A (recKey r)):=by
    rw [List.drop_eq_getElem_cons q]
    exact List.mem_cons_self ..
   have h1:=hs _ hm
   rw [hl _ (List.getElem_mem q)] at h1
   cases h1
  ·omega
 refine ⟨?_,List.pairwise_append.2 ⟨h,List.pairwise_singleton ..,fun a ha b hb=>by rw [List.mem_singleton.1 hb];exact hl a ha⟩⟩
 rw [recAdd,if_neg (by rw [hr];simp),hi,List.getElem?_eq_none (Qn _)]
 simp
theorem Xki {id:Nat} {L:List Ses} (hn:∀(k:Nat) (x:Ses),L[k]? =some x→x.num=(k:Int)+1) (hl:L.length≤8):∀k,k≤L.length→Rises (recsOfS id (L.take k))
 |0,_=>by rw [List.take_zero];exact List.Pairwise.nil
 |k+1,hk=>by
  have ih:=Xki (id:=id) hn hl k (by omega)
  rw [List.take_succ_eq_append_getElem (by omega),recsOfS,List.map_append]
  exact (Xgx ih (Xcn (by have:=hn k L[k] (List.getElem?_eq_getElem (by omega));omega)) fun a ha=>by
   obtain ⟨x,hx,rfl⟩:=List.mem_map.1 ha
   obtain ⟨i,hi⟩:=List.getElem?_of_mem hx
   rw [List.getElem?_take] at hi
   split at hi
   ·exact Xua (hn i x hi) (hn k L[k] (List.getElem?_eq_getElem (by omega))) (by assumption) (by omega)
   ·cases hi).2
theorem Xkh {id:Nat} {L:List Ses} (hn:∀(k:Nat) (x:Ses),L[k]? =some x→x.num=(k:Int)+1) (hl:L.length≤8) {k:Nat} (hk:k<L.length) {x:Ses} (hx:L[k]=x):
 recAdd (recsOfS id (L.take k)) (recOfS id x)=(recsOfS id (L.take (k+1)),0)∧refAdd (recsOfS id (L.take k)) (recOfS id x)=(recsOfS id (L.take (k+1)),0):=by
 have h0:=Xki (id:=id) hn hl k (by omega)
 have h1:=(Xgx h0 (r:=recOfS id x) (Xcn (by have:=hn k x (by rw [List.getElem?_eq_getElem hk,hx]);omega)) fun a ha=>by
  obtain ⟨y,hy,rfl⟩:=List.mem_map.1 ha
  obtain ⟨i,hi⟩:=List.getElem?_of_mem hy
  rw [List.getElem?_take] at hi
  split at hi
  ·exact Xua (hn i y hi) (hn k x (by rw [List.getElem?_eq_getElem hk,hx])) (by assumption) (by omega)
  ·cases hi).1
 have h2:recsOfS id (L.take k)++ [recOfS id x]=recsOfS id (L.take (k+1)):=by
  rw [List.take_succ_eq_append_getElem hk,hx,recsOfS,recsOfS,List.map_append];rfl
 rw [h2] at h1
 exact ⟨h1,by rw [←Xp9 h0];exact h1⟩
theorem Xi7 {id:Nat} (hid:id<4294967296) {L:List Ses} (hn:∀x∈L,1≤x.num∧x.num≤255):∀r∈recsOfS id L,r.Wf:=by
 intro r hr
 obtain ⟨x,hx,rfl⟩:=List.mem_map.1 hr
 have h:=hn x hx
 unfold Rec.Wf recOfS
 dsimp only
 rw [Xuk]
 omega
theorem Xjr:(Tryz.prog.info? 181).map (fun i=>(i.zero,i.size,i.bytes))=some (some (.agg #[.string ⟨#[]⟩,.int .i64 0,.int .i64 0,.int .i64 0]),4,40):=by kernel_rfl
set_option maxRecDepth 100000 in
set_option maxHeartbeats 400000 in
theorem Xns (I:IH) (v:Value) (l:List _) (hv:RdS tCk I v l) (w:World) (hw:Ok I w) (hbig:l.length*40≤140737488355328):
 Calls Tryz.prog 132 #[v] w fun e w'=> ∃v',e= .returned v'∧OwnS tCk 181 I w' w.heap.size v' l∧Below w.heap.size w w':=by
 obtain ⟨i0,hi,hz0,hz1,hz2⟩:=info_parts Xjr
 have q22:∀(w:World) (a:Option Addr) (n c n' c':Nat),(binOp .eql 87 (.slice a n c) (.slice none n' c')).run Tryz.prog w= .ok (.bool a.isNone) w:=fun w a n c n' c'=>Lib.run_eql_slice_nil w _ _ a n c n' c' Tryz.underlying87
 obtain ⟨ao,cap,xs,rfl,hcap,hcm,hL,hx⟩:=hv.cells hw (by decide)
 have HL:=Qh hL
 have Hx:=Qh hx
 clear hL hx hv
 cases ao with
 |none=>
  have h0:l.length=0:=by
   rcases Nat.eq_zero_or_pos l.length with h|h
   ·exact h
   ·obtain ⟨b,off,arr,e,_⟩:=Hx.out h;cases e
  have:l= []:=List.eq_nil_of_length_eq_zero h0
  subst this
  go_enter Tryz.func132,Tryz.ntmps132
  go_wp2
  go_ret
  exact ⟨_,rfl,OwnS.nil _ _ _ _ _,Qb _ _⟩
 |some a=>
  go_enter Tryz.func132,Tryz.ntmps132
  go_wp2_with (at_builtin;refine wpList_append_own _ rfl _ _ 87 rfl w.heap.size 181 i0 _ 4 40 Tryz.underlying87 hi hz0 hz1 hz2 rfl (by decide) _ _ _ rfl (World.ownsRow_made w #[] 0 (Qn _) (Nat.zero_le _) (by simp)) a l.length cap xs rfl ?qc1 ?qc2 ?qc3 ?qc4 ?qc5 ?qc6 ?_)
  case qc1=>exact HL.out.1
  case qc2=>
   intro j u hj
   have hl:0<l.length:=by
    have:=(List.getElem?_eq_some_iff.1 hj).1
    rw [HL.out.1] at this
    rcases Nat.eq_zero_or_pos l.length with h|h
    ·rw [h] at this;omega
    ·exact h
   obtain ⟨b,off,arr,e,_,hb,hc⟩:=Hx.out hl
   cases e
   rw [Addr.add_lit]
   rw [World.cell?_alloc_lt _ _ _ hb]
   exact hc j u hj
  case qc3=>exact HL.out.oneCell
  case qc4=>rw [Nat.zero_add];omega
  case qc5=>rw [Nat.zero_add];exact hbig
  case qc6=>simp
  intro v' w1 hown hgrow _
  go_wp2
  go_ret
  refine ⟨v',rfl,⟨xs,(by have hq:=hown;first|exact hq|(simp at hq;exact hq)),HL.out⟩,?_⟩
  exact ((Qb _ w).alloc (Qn _) _).grown hgrow (by simp) (by intro k hk;simp [Value.ownBlock] at hk;omega)
theorem mlaw:Go.Maps.Keyed Tryz.prog 9:=Go.Maps.string_keyed Tryz.underlying9
theorem mkey (p:Bytes) (hp:p.length≤4294967280):keyOf Tryz.prog 9 (S p)=some (.string p):=by
 have h:=Go.WideMaps.keyOf_string_mk (P:=Tryz.prog) Tryz.underlying9 (s:=⟨p.toArray⟩) (by rw [ByteArray.size_mk',List.size_toArray];unfold maxLen;omega)
 simpa using h
def xDat (x:Xt):DataW Unit:= .agg [.lit (.int .i64 x.s),.lit (.int .i64 x.o),.lit (.int .i64 x.n)]
def xElem (v:Value):Option (DataW Unit × List MemPlace):=
 match v with
 | .agg a=>match a.toList with
   | [.int .i64 s,.int .i64 o,.int .i64 n]=>some (xDat ⟨s,o,n⟩,[])
   |_=>none
 |_=>none
theorem Xir (x:Xt):xElem (xtW x)=some (xDat x,[]):=rfl
theorem Xpc {v:Value} {z:DataW Unit × List MemPlace} (h:xElem v=some z):∃x,v=xtW x∧z=(xDat x,[]):=by
 unfold xElem at h
 split at h
 ·rename_i a
  split at h
  ·rename_i s o n e
   refine ⟨⟨s,o,n⟩,?_,(Option.some.inj h).symm⟩
   rw [←Array.toArray_toList (xs:=a),e]
  ·cases h
 ·cases h
theorem Xm1 {x y:Xt} (h:xDat x=xDat y):x=y:=by
 unfold xDat at h
 cases x
 cases y
 simp at h
 obtain ⟨rfl,rfl,rfl⟩:=h
 rfl
def MapX (D:DataW Unit) (l:List Ck):Prop:= ∀p:Bytes,(findX l p=none→Go.Maps.has D (.string p)=false)∧ ∀x,findX l p=some x→Go.Maps.has D (.string p)=true∧ ∀z,D.atKey (.string p) z=xDat x
theorem Xs6:MapX (.map []) []:=fun _=>⟨fun _=>rfl,fun _ h=>(by cases h)⟩
theorem Xii (l:List Ck) (c:Ck) (p:Bytes):findX (l++ [c]) p=match findX l p with|some x=>some x|none=>if c.d=p then some c.x else none:=by
 induction l with
 |nil=>rfl
 |cons a l ih=>
  rw [List.cons_append,findX,findX]
  by_cases h:a.d=p
  ·rw [if_pos h,if_pos h]
  ·rw [if_neg h,if_neg h,ih]
theorem Xs5 {D:DataW Unit} {l:List Ck} (h:MapX D l) {c:Ck} {y:Xt} (hc:findX l c.d=some y):MapX D (l++ [c]):=fun p=>by
 have hp:=h p
 rw [Xii]
 cases hf:findX l p with
 |some x=>rw [hf] at hp;exact hp
 |none=>
  rw [hf] at hp
  have hne:c.d≠p:=fun e=>by rw [e,hf] at hc;cases hc
  dsimp only
  rw [if_neg hne]
  exact hp
theorem Xnf {D:DataW Unit} {l:List Ck} (h:MapX D l) (hD:Go.Maps.IsMap D) {c:Ck} (hc:findX l c.d=none):MapX (D.put (.string c.d) (xDat c.x)) (l++ [c]):=fun p=>by
 have hp:=h p
 rw [Xii]
 by_cases hne:c.d=p
 ·subst hne
  rw [hc]
  dsimp only
  rw [if_pos rfl]
  refine ⟨fun e=>(by cases e),fun x hx=> ?_⟩
  cases hx
  exact ⟨Go.Maps.has_put_same hD (show WideAt.IsKeyLit (.string c.d) from trivial) _,fun z=>Go.Maps.atKey_put_same hD (show WideAt.IsKeyLit (.string c.d) from trivial) _ z⟩
 ·have hk:(Lit.string p)≠ .string c.d:=by intro e;cases e;exact hne rfl
  rw [Go.Maps.has_put_other hk]
  cases hf:findX l p with
  |some x=>
   rw [hf] at hp
   refine ⟨fun e=>(by cases e),fun y hy=>⟨(hp.2 y hy).1,fun z=> ?_⟩⟩
   rw [Go.Maps.atKey_put_other hk]
   exact (hp.2 y hy).2 z
  |none=>
   rw [hf] at hp
   dsimp only
   rw [if_neg hne]
   exact ⟨fun _=>hp.1 rfl,fun x hx=>(by cases hx)⟩
theorem Xws (w:World):(zeroValue 110).run Tryz.prog w= .ok (xtW ⟨0,0,0⟩) w:=by kernel_rfl
theorem Xwc {W:World} {B n:Nat} {D:DataW Unit} {l:List Ck} (h:W.ownsMap Tryz.prog 9 xElem B n D) (hM:MapX D l) {p:Bytes} (hp:p.length≤4294967280):
 (Instr.lookup 230 (.map (some B)) (S p) true).run Tryz.prog W= .ok (.tuple #[xtW (findR l p).1,.bool (findR l p).2]) W:=by
 obtain ⟨v,ps,h1,h2⟩:=h.look_ok mlaw Tryz.underlying230 (Xws W) (Xir ⟨0,0,0⟩) (mkey p hp)
 obtain ⟨x,rfl,hx⟩:=Xpc h2
 have hx:=(Prod.mk.inj hx).1
 rw [h1]
 unfold findR
 cases hf:findX l p with
 |none=>
  have k:=(hM p).1 hf
  rw [Go.Maps.atKey_of_not_has k] at hx
  rw [k,←Xm1 hx]
 |some y=>
  obtain ⟨k1,k2⟩:=(hM p).2 y hf
  rw [k2] at hx
  rw [k1,←Xm1 hx]
set_option maxRecDepth 100000 in
set_option maxHeartbeats 2000000 in
theorem Xto (I:IH) (s:Sto) (vc:Value) (hv:RdS tCk I vc s.cks) (hn:s.cks.length≤400000000) (hd:∀c∈s.cks,c.d.length≤32) (w:World) (hw:Ok I w):
 Calls Tryz.prog 190 #[stoV s vc] w fun e w'=> ∃B D,e= .returned (.map (some B))∧w.heap.size≤B∧w'.ownsMap Tryz.prog 9 xElem B s.cks.length D∧MapX D s.cks∧Below w.heap.size w w':=by
 have hmm:= @run_makeMap Tryz.prog
 obtain ⟨ao,cap,rfl,_,_,_⟩:=id hv
 have Hv:=Qh hv
 have Hd:=Qh hd
 have b0:Below w.heap.size w (w.alloc (.cells #[.slice ao s.cks.length cap,.int .i64 s.ses,S s.str] 89)):=(Qb _ _).alloc (Qn _) _
 have Hm0:=Qh (show ((w.alloc (.cells #[.slice ao s.cks.length cap,.int .i64 s.ses,S s.str] 89)).alloc (.map #[] 0)).ownsMap Tryz.prog 9 xElem (w.heap.size+1) 0 (.map []) by
  have:=World.ownsMap_made (H:=Unit) (w.alloc (.cells #[.slice ao s.cks.length cap,.int .i64 s.ses,S s.str] 89)) Tryz.prog 9 xElem
  rwa [World.size_alloc] at this)
 have hb0:Below w.heap.size w ((w.alloc (.cells #[.slice ao s.cks.length cap,.int .i64 s.ses,S s.str] 89)).alloc (.map #[] 0)):=b0.alloc b0.size _
 have hok0:Ok I ((w.alloc (.cells #[.slice ao s.cks.length cap,.int .i64 s.ses,S s.str] 89)).alloc (.map #[] 0)):=(hw.alloc _).alloc _
 have hIB:I (w.heap.size+1)=none:=hw.fresh (by omega)
 obtain ⟨B,hB⟩:∃B,w.heap.size+1=B:=⟨_,rfl⟩
 clear hv hd b0
 go_enter Tryz.func190,Tryz.ntmps190
 go_wp2
 rw [hB] at Hm0 hIB
 generalize hW:((w.alloc (.cells #[.slice ao s.cks.length cap,.int .i64 s.ses,S s.str] 89)).alloc (.map #[] 0))=W0 at Hm0 hb0 hok0 ⊢
 clear hW hmm
 go_loopw [12] (fun s12 wr=> ∃(k:Nat) (D:DataW Unit),k≤s.cks.length∧s12= .int .i64 k∧wr.ownsMap Tryz.prog 9 xElem B k D∧MapX D (s.cks.take k)∧Ok I wr∧Below w.heap.size w wr) (fun i _=>s.cks.length-(intOf i).toNat)
 case atStart=>exact ⟨0,_,Nat.zero_le _,rfl,Hm0.out,Xs6,hok0,hb0⟩
 case round=>
  clear Hm0 hok0 hb0
  obtain ⟨k,D,hk,rfl,hown,hmap,hok,hb⟩:=hrel
  have Hown:=Qh hown
  have Hmap:=Qh hmap
  clear hown hmap
  by_cases hlt:k<s.cks.length
  ·obtain ⟨c,b,off,cap',hlc,hvv,x0,x1,x2,x3⟩:=ckAt Hv.out hok k hlt
   cases hvv
   have hcd:=Hd.out c (by rw [←hlc];exact List.getElem_mem hlt)
   have Htk:=Qh (show s.cks.take (k+1)=s.cks.take k++ [c] by rw [List.take_succ_eq_append_getElem hlt,hlc])
   have o1:=Hown.out.alloc (.cells #[S c.d,.int .i64 c.x.s,.int .i64 c.x.o,.int .i64 c.x.n] 181)
   have hlk:=Xwc o1 Hmap.out (p:=c.d) (by omega)
   have b1:=hb.alloc hb.size (.cells #[S c.d,.int .i64 c.x.s,.int .i64 c.x.o,.int .i64 c.x.n] 181)
   cases hf:findX (s.cks.take k) c.d with
   |some y=>
    have hfr:findR (s.cks.take k) c.d=(y,true):=by unfold findR;rw [hf]
    rw [hfr] at hlk
    have Hn:=Qh (show MapX D (s.cks.take (k+1)) by rw [Htk.out];exact Xs5 Hmap.out hf)
    clear hf hfr hlc o1 Htk
    go_wp2
    go_roundw
    case rel=>exact ⟨k+1,D,by omega,by go_num,((Hown.out.alloc _).alloc _).mono (by omega),Hn.out,(hok.alloc _).alloc _,b1.alloc b1.size _⟩
    case measure=>simp [intOf];omega
   |none=>
    have hfr:findR (s.cks.take k) c.d=(⟨0,0,0⟩,false):=by unfold findR;rw [hf]
    rw [hfr] at hlk
    have o2:=o1.alloc (.cells #[.int .i64 0,.int .i64 0,.int .i64 0] 110)
    have Hn:=Qh (show MapX (D.put (.string c.d) (xDat c.x)) (s.cks.take (k+1)) by rw [Htk.out];exact Xnf Hmap.out Hown.out.isMap hf)
    have Hkey:=Qh (mkey c.d (by omega))
    have hok2:=(hok.alloc (.cells #[S c.d,.int .i64 c.x.s,.int .i64 c.x.o,.int .i64 c.x.n] 181)).alloc (.cells #[.int .i64 0,.int .i64 0,.int .i64 0] 110)
    have b2:=b1.alloc b1.size (.cells #[.int .i64 0,.int .i64 0,.int .i64 0] 110)
    have Ho2:=Qh o2
    clear hf hfr hlc o1 o2 Htk
    go_wp2_with (first
     |(at_mapUpdate;refine wpList_mapUpdate_own _ rfl _ _ _ 230 rfl 9 110 mlaw Tryz.underlying230 xElem B k D rfl Ho2.out (by unfold maxLen;omega) _ _ _ rfl rfl Hkey.out _ [] (Xir c.x) ?_)
     |go_in)
    intro w3 ho3 hg3
    go_wp2
    go_roundw
    case rel=>exact ⟨k+1,_,by omega,by go_num,ho3,Hn.out,hok2.grown hg3 (fun g e=>by cases e;exact hIB),b2.grown hg3 b2.size (fun g e=>by cases e;omega)⟩
    case measure=>simp [intOf];omega
  ·have Hn:=Qh (show MapX D s.cks by have:=Hmap.out;rwa [List.take_of_length_le (by omega)] at this)
   have hks:k=s.cks.length:=by omega
   subst hks
   go_wp2
   go_ret
   exact ⟨B,D,rfl,by omega,Hown.out,Hn.out,hb⟩
structure MAt (I:IH) (w0:World) (J:IH) (W:World):Prop where
 ok:Ok J W
 keep:∀b c,I b=some c→J b=some c
 bel:Below w0.heap.size w0 W
section
variable {I J J':IH} {w0 W W':World}
theorem MAt.start (h:Ok I w0):MAt I w0 I w0:=⟨h,fun _ _ h=>h,Qb _ _⟩
theorem MAt.quiet (h:MAt I w0 J W) (hb:Below W.heap.size W W'):MAt I w0 J W':=⟨h.ok.below (Qn _) hb,h.keep,h.bel.trans (hb.mono h.bel.size)⟩
theorem MAt.past (h:MAt I w0 J W) (o:Obj):MAt I w0 J (W.alloc o):=h.quiet ((Qb _ _).alloc (Qn _) o)
theorem MAt.ext (h:MAt I w0 J W) (hb:Below W.heap.size W W') (hx:Ext W.heap.size J J') (hok:Ok J' W'):MAt I w0 J' W':=
 ⟨hok,fun b c hc=>hx.keep h.ok (Qn _) b c (h.keep b c hc),h.bel.trans (hb.mono h.bel.size)⟩
theorem MAt.size (h:MAt I w0 J W):w0.heap.size≤W.heap.size:=h.bel.size
end
theorem Xnt {W:World} {k:Nat} {c:Array Value} {e:TypeId} {f:Nat × Nat} {row:Option Nat} (hk:W.heap[k]? =some (.cells c e f)) (hr:∀r,row=some r→ ∃o:Obj,W.heap[r]? =some o∧o.isCells=false):row≠some k:=by
 intro e'
 obtain ⟨o,ho,hc⟩:=hr k e'
 rw [hk] at ho
 cases ho
 cases hc
theorem Below.turn {n:Nat} {w W W':World} {row:Option Nat} {B:Nat} (h:Below n w W) (hn:n≤w.heap.size) (hB:n≤B) (hg:W.grownBy W' row) (hr:∀r,row=some r→B≤r∧ ∃o:Obj,W.heap[r]? =some o∧o.isCells=false):Below n w W':=
 h.grown hg (Nat.le_trans hn h.size) (fun k e=>Nat.le_trans hB (hr k e).1)
theorem KeepsFrom.setCellK {B:Nat} (W:World) (p:Addr) (u:Value):KeepsFrom B W (W.setCell p u):=(KeepsOthers.setCell W p u).from B
theorem Xm8 {W W':World} {k:Nat} {c:Array Value} {e:TypeId} {f:Nat × Nat} {row:Option Nat} (h:W.heap[k]? =some (.cells c e f)) (hg:W.grownBy W' row) (hr:∀r,row=some r→ ∃o:Obj,W.heap[r]? =some o∧o.isCells=false):W'.heap[k]? =some (.cells c e f):=
 (hg.block k (Array.getElem?_eq_some_iff.1 h).1 (fun e'=>Xnt h hr e'.symm)).trans h
theorem Xbe {α:Type} {T:Ty α} {I:IH} {F:Fence} {nF:Nat} {P:Program} {ts te:TypeId} {bytes:Nat} (hE:ElemOk P ts te T bytes) {w0:World} {ops:Array Oper} {rest:List Oper} {o:Oper} {a:Act} {Q:Exit→Act→World→Prop} (hgd:o.guard=none) (s x:Operand)
 (ho:o.op= .call { callee:= .builtin .append,args:= #[s,x],argTypes:= #[ts,ts] }) (B:Nat) (v:Value) (l:List α) (hs:a.eval s=v) (hown:OwnS T te I w0 B v l)
 (y:α) (cs:List Value) (tb:TypeId) (hx:a.eval x= .slice (some ⟨w0.heap.size,0,none⟩) 1 1) (hy:T.rd I cs y) (hbig:(l.length+1)*bytes≤140737488355328) (hl:l.length+1≤9223372036854775807) (hB:B≤w0.heap.size)
 (h:∀v' w',OwnS T te I w' B v' (l++ [y])→w0.grownBy w' v.ownBlock→(∀g,v'.ownBlock=some g→v.ownBlock=some g∨w0.heap.size≤g)→wpListIn F nF P ops Q rest (a.put o.dst v') w'):wpListIn F nF P ops Q (o::rest) a (w0.alloc (.cells cs.toArray tb)):=by
 obtain ⟨i,z,h1,h2,h3,h4,h5,h6,h7⟩:=hE
 obtain ⟨xs,k1,k2⟩:=hown
 refine wpListIn_append_own_at (w0.alloc (.cells cs.toArray tb)) hgd s x ts ho B te i z T.size bytes h1 h2 h3 h4 h5 h6 h7 v l.length xs hs (k1.alloc _) ⟨w0.heap.size,0,none⟩ 1 1 cs hx (by rw [T.len hy,Nat.one_mul])
  (fun j u hu=>by rw [Addr.add_lit,Nat.zero_add,World.cell?_alloc_new];simpa using hu) (T.one hy) (by unfold maxLen;omega) hbig (by simp;omega) (fun v' w' r1 r2 _ r4=>h v' w' ⟨xs++cs,by rw [List.length_append];exact r1,k2.append (LiesL.one hy)⟩ ?_ ?_)
 ·exact ⟨r2.os,r2.tape,r2.output,by have:=r2.size;simp at this;omega,fun k hk hne=>(r2.block k (by simp;omega) hne).trans (Below.heap_alloc _ _ _ hk)⟩
 ·intro g hg
  rcases r4 with r4|r4
  ·exact .inl (r4▸hg)
  ·rw [r4] at hg
   simp at hg
   exact .inr (by omega)
theorem Xar {α:Type} {T:Ty α} {E:TypeId} {I:IH} {w:World} {B:Nat} {v:Value} {l:List α} (h:OwnS T E I w B v l) {g:Nat} (hg:v.ownBlock=some g):B≤g∧ ∃cur,w.heap[g]? =some (.cells cur E (0,0)):=by
 obtain ⟨xs,⟨_,h1⟩,_⟩:=h
 rcases h1 with ⟨h2,_⟩|⟨g',cap,cur,rfl,hB,hcur,_⟩
 ·rw [h2] at hg;cases hg
 ·have e:g'=g:=by simpa [Value.ownBlock] using hg
  subst e
  exact ⟨hB,cur,hcur⟩
theorem Xbt {α:Type} {T:Ty α} {E E':TypeId} {I:IH} {w:World} {B b:Nat} {v:Value} {l:List α} {c:Array Value} {f:Nat × Nat} (h:OwnS T E I w B v l) (hb:w.heap[b]? =some (.cells c E' f)) (hT:E'≠E):v.ownBlock≠some b:=fun e=>by
 obtain ⟨_,cur,hc⟩:=Xar h e
 rw [hb] at hc
 cases hc
 exact hT rfl
theorem KeepsFrom.own {α:Type} {T:Ty α} {E:TypeId} {I:IH} {W W':World} {B B':Nat} {v:Value} {l:List α} (h:OwnS T E I W B v l) (hg:W.grownBy W' v.ownBlock):KeepsFrom B' W W':=
 ⟨hg.size,fun k o _ hk ho=>(hg.block k (Array.getElem?_eq_some_iff.1 hk).1 (fun e=>by
   obtain ⟨_,cur,hc⟩:=Xar h e.symm
   rw [hk] at hc
   cases hc
   cases ho)).trans hk⟩
theorem OwnS.turn {α:Type} {T:Ty α} {E:TypeId} {I:IH} {W W':World} {B:Nat} {v:Value} {l:List α} {row:Option Nat} (h:OwnS T E I W B v l) (hg:W.grownBy W' row) (hr:∀r,row=some r→ ∃o:Obj,W.heap[r]? =some o∧o.isCells=false):OwnS T E I W' B v l:=by
 refine h.kept hg ?_
 cases hv:v.ownBlock with
 |none=>exact .inl rfl
 |some g=>
  obtain ⟨_,cur,hc⟩:=Xar h hv
  exact .inr fun e=>Xnt hc hr e.symm
theorem Xdk {α:Type} {T:Ty α} {E:TypeId} {I:IH} {w:World} {B:Nat} {v:Value} {l:List α} (h:OwnS T E I w B v l):∃ao n cap,v= .slice ao n cap:=by
 obtain ⟨xs,h1,_⟩:=h
 rcases h1.2 with ⟨h,_⟩|⟨g,cap,cur,h,_⟩
 ·exact ⟨_,_,_,h⟩
 ·exact ⟨_,_,_,h⟩
theorem OwnS.stored {α:Type} {T:Ty α} {E:TypeId} {I:IH} {W:World} {B b:Nat} {v:Value} {l:List α} (h:OwnS T E I W B v l) (hv:v.ownBlock≠some b) (j:Nat) (u:Value):OwnS T E I (W.setCell ⟨b,j,none⟩ u) B v l:=
 h.kept (row:=some b) ⟨rfl,rfl,rfl,by simp,fun k _ hk=>heap_setCell_other W ⟨b,j,none⟩ k u (fun e=>hk (by simp [e]))⟩ (.inr hv)
def Feeds {α:Type} (F:Fence) (n:Nat) (P:Program) (g:Nat) (lb:Array Value) (encs:α→Array Value) (Bx:Nat) (Kp:World→World→Prop) (S:List α→Prop) (N:Nat) (w:World):Prop:=
 ∀(l:Nat) (J:List α→World→Prop) (W:World),Below w.heap.size w W→AbidesFrom W.heap.size J→(∀pre W' u,J pre W'→J pre (W'.setCell ⟨Bx,0,none⟩ u))→
  (∀pre x W1,J pre W1→pre.length<N→YieldAt F (n-1) P l (encs x) W1 fun e W'=>e= .returned (.bool true)∧J (pre++ [x]) W'∧Kp W1 W')→
  J [] W→CallsIn F n P g (#[.func (.yield l) #[] #[]]++lb) W fun e W'=>(∃v,e= .returned v)∧ ∃xs,S xs∧J xs W'
theorem Xpe {α:Type} {F:Fence} {n:Nat} {P:Program} {g:Operand} {ps:Array Tmp} {assign body:Code} {Q:Exit→Act→World→Prop} {a:Act} {w:World}
 (hro:F.round=none) (h1:1≤n) {gf:Nat} {lb:Array Value} (hg:a.eval g= .func (.func gf) #[] lb) (hFg:F.fn gf) (eg:∀args w,(callFunc gf args).run P w= .ok (.enter gf args) w)
 {encs:α→Array Value} {Bx:Nat} {Kp:World→World→Prop} {S:List α→Prop} {N:Nat} (hseq:Feeds F (n-1) P gf lb encs Bx Kp S N w) (hBx:Bx<w.heap.size)
 (hKt:∀ {A B C:World},Kp A B→Kp B C→Kp A C) (hKb:∀(W:World) (l:Nat) (o':Obj),w.heap.size≤l→Kp W (W.putObj l o')) (hps:∀x,(encs x).size=ps.size)
 (I:List α→World→Prop) (hI:OwnFrom w.heap.size I) (hIw:∀pre W u,I pre W→I pre (W.setCell ⟨Bx,0,none⟩ u)) (h0:I [] w) (a₁:α→Act)
 (hassign:∀(l:Nat) (x:α) (W:World) (K:Act→World→Prop),K (a₁ x) W→
   assign.wpIn (F.inRound l) (n-1-1) P (Exit.then K (fun _ _ _=>False)) { tmps:=(ps.zip (encs x)).foldl (fun t (p,v)=>t.setIfInBounds p v) a.tmps,defers:= [] } W)
 (hbody:∀(l:Nat) (pre:List α) (x:α) (W:World),I pre W→pre.length<N→body.wpIn (F.inRound l) (n-1-1) P (fun e _ W'=>e= .normal∧KeepsFrom w.heap.size W W'∧Kp W W'∧I (pre++ [x]) W') (a₁ x) W)
 (hdone:∀(D:Nat) (xs:List α) (W:World),w.heap.size≤D→S xs→I xs W→W.heap[D]? =some (.deferred (some []))→Q .normal { a with defers:= { target:= .collected D,args:= #[] }::a.defers } W):
 (Code.rangeFunc g ps assign body).wpIn F n P Q a w:=by
 refine wpIn_rangeFunc ?_
 intro fn hfn
 rw [hro]
 obtain ⟨rec,hrec⟩:∃rec:LoopState→Loop,rec=fun st=> { state:=st,pending:=none,fn,tmps:=a.tmps,params:=ps,assign,body,defers:=w.heap.size }:=⟨_,rfl⟩
 obtain ⟨L,hL⟩:∃L,w.heap.size+1=L:=⟨_,rfl⟩
 obtain ⟨W1,hW1⟩:∃W1,(w.alloc (.deferred (some []))).alloc (.loop (rec .ready))=W1:=⟨_,rfl⟩
 have hL1:W1.heap[L]? =some (.loop (rec .ready)):=by
  have:=World.alloc_heap_new (w.alloc (.deferred (some []))) (.loop (rec .ready))
  rw [World.size_alloc,hL,hW1] at this
  exact this
 have hD1:W1.heap[w.heap.size]? =some (.deferred (some [])):=by
  rw [←hW1]
  exact (Below.heap_alloc _ _ _ (by simp)).trans (World.alloc_heap_new w _)
 have hI1:I [] W1:=by rw [←hW1];exact hI.alloc _ (hI.alloc _ h0)
 have hb1:Below w.heap.size w W1:=by rw [←hW1];exact ((Qb _ w).alloc (Qn _) _).alloc (by simp) _
 have hz1:W1.heap.size=w.heap.size+2:=by rw [←hW1];simp
 refine ⟨L,[{ target:= .collected w.heap.size,args:= #[] }],W1,{ target:= .fn (.func gf) lb,args:= #[.func (.yield L) #[] #[]] },W1,gf,#[.func (.yield L) #[] #[]]++lb,W1,?_,?_,?_,?_,fun _=>h1,?_⟩
 ·rw [←hW1,←hL,hrec];exact run_enterLoop_outer _ _ _ _ _
 ·simp only [resolve,hg]
  simp [go_sem]
 ·intro f' hf'
  simp [Target.leads] at hf'
  subst hf'
  exact hFg
 ·simp [invoke,go_sem,eg]
 ·have hne:Bx≠L:=by omega
  have hne2:Bx≠w.heap.size:=by omega
  refine (hseq L (fun pre W=>I pre W∧W.heap[L]? =some (.loop (rec .ready))∧W.heap[w.heap.size]? =some (.deferred (some []))) W1 hb1 ?_ ?_ ?_ ⟨hI1,hL1,hD1⟩).mono ?_
  ·intro s A B row ⟨k1,k2,k3⟩ hg' hr
   have hr':∀r,row=some r→ ∃o:Obj,A.heap[r]? =some o∧o.isWalk=true:=fun r e=>(hr r e).2
   exact ⟨hI s A B row k1 hg' fun r e=>by obtain ⟨q1,o,q2,q3⟩:=hr r e;exact ⟨by omega,o,q2,Obj.not_cells_of_walk q3⟩,(grownBy_keeps hg' hr' k2 rfl).trans k2,(grownBy_keeps hg' hr' k3 rfl).trans k3⟩
  ·intro pre A u ⟨k1,k2,k3⟩
   exact ⟨hIw pre A u k1,(heap_setCell_other A ⟨Bx,0,none⟩ L u hne.symm).trans k2,(heap_setCell_other A ⟨Bx,0,none⟩ w.heap.size u hne2.symm).trans k3⟩
  ·rintro pre x W ⟨hi,hl,hk⟩ hlen
   have hlt:L<W.heap.size:=(Array.getElem?_eq_some_iff.1 hl).1
   have hy:=run_yield (P:=P) (args:=encs x) hl (by rw [hrec];exact hps x)
   rw [hrec] at hy
   have hb:=run_beginRound (P:=P) hl (by rw [hrec])
   obtain ⟨W2,hW2⟩:∃W2,W.putObj L (.loop { rec .ready with state:= .busy })=W2:=⟨_,rfl⟩
   rw [hW2] at hb
   have hl2:W2.heap[L]? =some (.loop { rec .ready with state:= .busy }):=by rw [←hW2];exact World.putObj_heap_same hlt
   have hk2:W2.heap[w.heap.size]? =some (.deferred (some [])):=by rw [←hW2];exact (World.putObj_heap_other (by omega)).trans hk
   have hp2:Kp W W2:=by rw [←hW2];exact hKb _ _ _ (by omega)
   have hi2:I pre W2:=by rw [←hW2];exact hI.putObj _ hi (by omega) hl rfl
   refine ⟨fn,_,assign,body,hy,roundIn_of_wpIn hfn (hassign _ x W _ ⟨_,hb,wpIn_mono (hbody L pre x W2 hi2 hlen) ?_⟩)⟩
   rintro e a3 W3 ⟨rfl,hk3,hp3,hi3⟩
   have hl3:=hk3.same _ _ (by omega) hl2 rfl
   have hd3:=hk3.same _ _ (Qn _) hk2 rfl
   have he:=run_endRound (P:=P) none hl3
   refine ⟨_,_,he,rfl,⟨hI.putObj _ hi3 (by omega) hl3 rfl,?_,(World.putObj_heap_other (by omega)).trans hd3⟩,hKt (hKt hp2 hp3) (hKb _ _ _ (by omega))⟩
   have:=World.putObj_heap_same (o:=Obj.loop { rec .ready with state:= .ready,pending:=none }) (Array.getElem?_eq_some_iff.1 hl3).1
   rw [hrec] at this ⊢
   exact this
  ·rintro e W2 ⟨⟨v,rfl⟩,xs,hS,hi,hl,hk⟩
   have he:=run_endLoop (P:=P) hl (by rw [hrec];simp)
   rw [hrec] at he
   exact ⟨none,_,he,hdone _ xs _ (Qn _) hS (hI.putObj _ hi (by omega) hl rfl) ((World.putObj_heap_other (by omega)).trans hk)⟩
structure Gr2 (w w':World) (row:Option Nat) (bo:Nat):Prop where
 os:w'.os=w.os
 tape:w'.tape=w.tape
 output:w'.output=w.output
 size:w.heap.size≤w'.heap.size
 block:∀k,k<w.heap.size→some k≠row→k≠bo→w'.heap[k]? =w.heap[k]?
section
variable {w w' w'':World} {row:Option Nat} {bo n:Nat}
theorem Gr2.of_grown (h:w.grownBy w' row) (bo:Nat):Gr2 w w' row bo:=⟨h.os,h.tape,h.output,h.size,fun k hk hr _=>h.block k hk hr⟩
theorem Gr2.set (h:Gr2 w w' row bo) (j:Nat) (u:Value):Gr2 w (w'.setCell ⟨bo,j,none⟩ u) row bo:=
 ⟨h.os,h.tape,h.output,by have:=h.size;simp;omega,fun k hk hr hb=>(heap_setCell_other w' ⟨bo,j,none⟩ k u hb).trans (h.block k hk hr hb)⟩
theorem Gr2.srow {g:Nat} (h:Gr2 w w' (some g) bo) (j:Nat) (u:Value):Gr2 w (w'.setCell ⟨g,j,none⟩ u) (some g) bo:=
 ⟨h.os,h.tape,h.output,by have:=h.size;simp;omega,fun k hk hr hb=>(heap_setCell_other w' ⟨g,j,none⟩ k u (fun e=>hr (by rw [show k=g from e]))).trans (h.block k hk hr hb)⟩
theorem Gr2.drew (h:Gr2 w w' row bo):Gr2 w w'.drew row bo:=⟨h.os,h.tape,h.output,h.size,h.block⟩
theorem Gr2.below (h:Gr2 w w' row bo) (hb:Below n w'' w) (hn:n≤w''.heap.size) (hr:∀g,row=some g→n≤g) (ho:n≤bo):Below n w'' w':=by
 have hg:∀k,k<n→w'.heap[k]? =w.heap[k]? :=fun k hk=>h.block k (by have:=hb.size;omega) (fun e=>by have:=hr k e.symm;omega) (by omega)
 exact ⟨h.os.trans hb.os,h.tape.trans hb.tape,h.output.trans hb.output,Nat.le_trans hb.size h.size,fun k hk=>(hg k hk).trans (hb.block k hk)⟩
end
def ColR (I:IH) (bo B:Nat) (w:World) (v:Value) (l:List Xt) (e:Ending) (w':World):Prop:=
 ∃u v',e= .returned u∧w'.heap[bo]? =some (.cells #[v'] 33 (0,0))∧OwnS tXt 110 I w' B v' l∧Gr2 w w' v.ownBlock bo∧ ∀g,v'.ownBlock=some g→v.ownBlock=some g∨w.heap.size≤g
set_option maxRecDepth 100000 in
set_option maxHeartbeats 2000000 in
theorem Xve (I:IH) (bo B:Nat) (v0:Value) (x:Xt) (w:World) (hv:OwnS tXt 110 I w B v0 []) (hbx:w.heap[bo]? =some (.cells #[v0] 33 (0,0))) (hB:B≤w.heap.size):
 Calls Tryz.prog 254 #[xtW x,.pointer (some ⟨bo,0,none⟩)] w (ColR I bo B w v0 (addX [] x)):=by
 have Hn:=Qh (Xnz x)
 obtain ⟨ao,n,cap,hvv,hn0⟩:∃ao n cap,v0= .slice ao n cap∧n=0:=by
  obtain ⟨xs,h1,_⟩:=hv
  rcases h1.2 with ⟨h,_⟩|⟨g,cap,cur,h,_⟩
  ·exact ⟨_,_,_,h,rfl⟩
  ·exact ⟨_,_,_,h,rfl⟩
 subst hvv
 subst hn0
 have hbb:Below w.heap.size w (w.alloc (.cells #[.int .i64 x.s,.int .i64 x.o,.int .i64 x.n] 110)):=(Qb _ _).alloc (Qn _) _
 have c0:(w.alloc (.cells #[.int .i64 x.s,.int .i64 x.o,.int .i64 x.n] 110)).cell? ⟨w.heap.size,0,none⟩=some (.int .i64 x.s):=by simp
 have c1:(w.alloc (.cells #[.int .i64 x.s,.int .i64 x.o,.int .i64 x.n] 110)).cell? ⟨w.heap.size,1,none⟩=some (.int .i64 x.o):=by simp
 have c2:(w.alloc (.cells #[.int .i64 x.s,.int .i64 x.o,.int .i64 x.n] 110)).cell? ⟨w.heap.size,2,none⟩=some (.int .i64 x.n):=by simp
 have cb:(w.alloc (.cells #[.int .i64 x.s,.int .i64 x.o,.int .i64 x.n] 110)).cell? ⟨bo,0,none⟩=some (.slice ao 0 cap):=Xab _ ((cell_of_row w _ 0 _ _ _ hbx).trans rfl)
 have gb:=cell_regrown cb
 have Hbx:=Qh ((Below.heap_alloc w (.cells #[.int .i64 x.s,.int .i64 x.o,.int .i64 x.n] 110) _ (Array.getElem?_eq_some_iff.1 hbx).1).trans hbx)
 have Ha:=Qh (hv.alloc (.cells #[.int .i64 x.s,.int .i64 x.o,.int .i64 x.n] 110))
 clear hv hbx
 go_enter Tryz.func254,Tryz.ntmps254
 go_wp2_with fail
 generalize (w.alloc (.cells #[.int .i64 x.s,.int .i64 x.o,.int .i64 x.n] 110))=w1 at hbb c0 c1 c2 cb gb Ha Hbx ⊢
 refine wp_region_quiet_below (by kernel_rfl) (by kernel_rfl) ?_
 repeat (go_big_quiet_step ((fail)))
 refine wpQuiet_nil ?_
 intro w2 hwq
 have hb2:Below (w1).heap.size (w1) w2:=by
  obtain ⟨pq,rfl⟩:=hwq
  exact below_regrown _ _ _
 clear hwq
 have hbb2:=hbb.trans (hb2.mono hbb.size)
 replace Ha:=Qh (Ha.out.below hb2)
 replace Hbx:=Qh ((hb2.block _ (Array.getElem?_eq_some_iff.1 Hbx.out).1).trans Hbx.out)
 replace c0:=Xaa hb2 c0
 replace c1:=Xaa hb2 c1
 replace c2:=Xaa hb2 c2
 replace cb:=Xaa hb2 cb
 have fb:w2.frozen? ⟨bo,0,none⟩=false:=frozen_of_row w2 _ 0 _ _ Hbx.out
 have hB1:B≤w2.heap.size:=by have:=hbb2.size;omega
 have hne:(Value.slice ao 0 cap).ownBlock≠some bo:=fun e=>by
  obtain ⟨_,cur,hc⟩:=Xar Ha.out e
  rw [Hbx.out] at hc
  exact absurd (Obj.cells.inj (Option.some.inj hc)).2.1 (by decide)
 have hgr1:=Xb5 hbb2 (Value.slice ao 0 cap).ownBlock
 go_wp2_with (at_builtin;refine Xbk (w0:=w2) Xiq rfl _ _ rfl B _ _ rfl Ha.out x (xtL x) _ rfl rfl (by (try simp only [List.length_nil]);omega) (by (try simp only [List.length_nil]);omega) hB1 ?_)
 intro v9 w9 hown9 hg9 hl9
 obtain ⟨a9,n9,k9,rfl⟩:=Xdk hown9
 have co9:=Xah hg9 hne cb
 have fo9:=Xcu hg9 hne cb fb
 have hgr:=Xco hgr1 hg9
 have hsz:=hgr1.size
 have hbx9:=(hg9.block _ (Array.getElem?_eq_some_iff.1 Hbx.out).1 (fun e=>hne e.symm)).trans Hbx.out
 go_wp2
 go_end0
 refine ⟨_,_,rfl,heap_setCell_same w9 bo 0 _ _ _ hbx9,(by rw [Hn.out];exact hown9.stored (Xbt hown9 hbx9 (by decide)) 0 _),(Gr2.of_grown hgr bo).set 0 _,fun g h=>(hl9 g h).imp id (fun h=>by omega)⟩
set_option maxRecDepth 100000 in
set_option maxHeartbeats 4000000 in
theorem Xvd (I:IH) (bo B:Nat) (v0:Value) (l:List Xt) (x:Xt) (w:World) (hv:OwnS tXt 110 I w B v0 l) (hbx:w.heap[bo]? =some (.cells #[v0] 33 (0,0))) (hB:B≤w.heap.size) (h0:0<l.length) (hn:l.length≤100000) (hl:∀z∈l,XB 1099511627776 z) (hx:XB 1099511627776 x):
 Calls Tryz.prog 254 #[xtW x,.pointer (some ⟨bo,0,none⟩)] w (ColR I bo B w v0 (addX l x)):=by
 have hbb:Below w.heap.size w (w.alloc (.cells #[.int .i64 x.s,.int .i64 x.o,.int .i64 x.n] 110)):=(Qb _ _).alloc (Qn _) _
 have c0:(w.alloc (.cells #[.int .i64 x.s,.int .i64 x.o,.int .i64 x.n] 110)).cell? ⟨w.heap.size,0,none⟩=some (.int .i64 x.s):=by simp
 have c1:(w.alloc (.cells #[.int .i64 x.s,.int .i64 x.o,.int .i64 x.n] 110)).cell? ⟨w.heap.size,1,none⟩=some (.int .i64 x.o):=by simp
 have c2:(w.alloc (.cells #[.int .i64 x.s,.int .i64 x.o,.int .i64 x.n] 110)).cell? ⟨w.heap.size,2,none⟩=some (.int .i64 x.n):=by simp
 have hv1:=hv.alloc (.cells #[.int .i64 x.s,.int .i64 x.o,.int .i64 x.n] 110)
 obtain ⟨g,cap,y,rfl,hcp,hy,hbg,hlt,y0,y1,y2,hfr⟩:=Xne hv1 h0
 have cb:(w.alloc (.cells #[.int .i64 x.s,.int .i64 x.o,.int .i64 x.n] 110)).cell? ⟨bo,0,none⟩=some (.slice (some ⟨g,0,none⟩) l.length cap):=Xab _ ((cell_of_row w _ 0 _ _ _ hbx).trans rfl)
 have gb:=cell_regrown cb
 have Hbx:=Qh ((Below.heap_alloc w (.cells #[.int .i64 x.s,.int .i64 x.o,.int .i64 x.n] 110) _ (Array.getElem?_eq_some_iff.1 hbx).1).trans hbx)
 have Ha:=Qh hv1
 have Happ:=Qh (fun h=>Xn2 (l:=l) (x:=x) hy h)
 have Hmrg:=Qh (fun h=>Xn0 (l:=l) (x:=x) hy h)
 have hyb:=hl y (Xft hy)
 unfold XB at hx hyb
 have Hy:=Qh hy
 clear hv hv1 hl hy hbx
 have i1:(0:Int)<(l.length:Int):=by omega
 have m1:IntKind.i64.wrap ((l.length:Int)-1)=((l.length-1:Nat):Int):=by rw [IntWalk.i64_in _ (by omega)];omega
 have m2:IntKind.i64.wrap (y.o+y.n)=y.o+y.n:=IntWalk.i64_in _ (by omega)
 have m3:(l.length:Int)-1=((l.length-1:Nat):Int):=by omega
 have i2:l.length-1<l.length:=by omega
 have i3:(0:Int)≤((l.length-1:Nat):Int):=by omega
 have g0:=cell_regrown y0
 have g1:=cell_regrown y1
 have g2:=cell_regrown y2
 have z0:=cell_regrown c0
 have z1:=cell_regrown c1
 have z2:=cell_regrown c2
 by_cases hs0:x.s=0
 ·have e1:(x.s != 0)=false:=by simpa using hs0
  have e2:(x.s==0)=true:=by simpa using hs0
  have Hn:=Qh (Happ.out (by rintro ⟨h,_⟩;exact h hs0))
  clear hs0 Happ Hmrg
  go_enter Tryz.func254,Tryz.ntmps254
  go_wp2_with fail
  generalize (w.alloc (.cells #[.int .i64 x.s,.int .i64 x.o,.int .i64 x.n] 110))=w1 at hbb c0 c1 c2 cb gb Ha Hbx y0 y1 y2 g0 g1 g2 z0 z1 z2 ⊢
  refine wp_region_quiet_below (by kernel_rfl) (by kernel_rfl) ?_
  repeat (go_big_quiet_step ((fail)))
  refine wpQuiet_nil ?_
  intro w2 hwq
  have hb2:Below (w1).heap.size (w1) w2:=by
   obtain ⟨pq,rfl⟩:=hwq
   exact below_regrown _ _ _
  clear hwq
  have hbb2:=hbb.trans (hb2.mono hbb.size)
  replace Ha:=Qh (Ha.out.below hb2)
  replace Hbx:=Qh ((hb2.block _ (Array.getElem?_eq_some_iff.1 Hbx.out).1).trans Hbx.out)
  replace c0:=Xaa hb2 c0
  replace c1:=Xaa hb2 c1
  replace c2:=Xaa hb2 c2
  replace cb:=Xaa hb2 cb
  have fb:w2.frozen? ⟨bo,0,none⟩=false:=frozen_of_row w2 _ 0 _ _ Hbx.out
  have hB1:B≤w2.heap.size:=by have:=hbb2.size;omega
  clear y0 y1 y2 g0 g1 g2 z0 z1 z2 gb
  have hne:(Value.slice (some ⟨g,0,none⟩) l.length cap).ownBlock≠some bo:=fun e=>by
   obtain ⟨_,cur,hc⟩:=Xar Ha.out e
   rw [Hbx.out] at hc
   exact absurd (Obj.cells.inj (Option.some.inj hc)).2.1 (by decide)
  have hgr1:=Xb5 hbb2 (Value.slice (some ⟨g,0,none⟩) l.length cap).ownBlock
  go_wp2_with (at_builtin;refine Xbk (w0:=w2) Xiq rfl _ _ rfl B _ _ rfl Ha.out x (xtL x) _ rfl rfl (by (try simp only [List.length_nil]);omega) (by (try simp only [List.length_nil]);omega) hB1 ?_)
  intro v9 w9 hown9 hg9 hl9
  obtain ⟨a9,n9,k9,rfl⟩:=Xdk hown9
  have co9:=Xah hg9 hne cb
  have fo9:=Xcu hg9 hne cb fb
  have hgr:=Xco hgr1 hg9
  have hsz:=hgr1.size
  have hbx9:=(hg9.block _ (Array.getElem?_eq_some_iff.1 Hbx.out).1 (fun e=>hne e.symm)).trans Hbx.out
  go_wp2
  go_end0
  refine ⟨_,_,rfl,heap_setCell_same w9 bo 0 _ _ _ hbx9,(by rw [Hn.out];exact hown9.stored (Xbt hown9 hbx9 (by decide)) 0 _),(Gr2.of_grown hgr bo).set 0 _,fun g h=>(hl9 g h).imp id (fun h=>by omega)⟩
 have e1:(x.s != 0)=true:=by simpa using hs0
 have e2:(x.s==0)=false:=by simpa using hs0
 by_cases hss:y.s=x.s
 case neg=>
  have e3:(y.s==x.s)=false:=by simpa using hss
  have Hn:=Qh (Happ.out (by rintro ⟨_,h,_⟩;exact hss h))
  clear hs0 hss Happ Hmrg
  go_enter Tryz.func254,Tryz.ntmps254
  go_wp2_with fail
  generalize (w.alloc (.cells #[.int .i64 x.s,.int .i64 x.o,.int .i64 x.n] 110))=w1 at hbb c0 c1 c2 cb gb Ha Hbx y0 y1 y2 g0 g1 g2 z0 z1 z2 ⊢
  refine wp_region_quiet_below (by kernel_rfl) (by kernel_rfl) ?_
  repeat (go_big_quiet_step ((fail)))
  refine wpQuiet_nil ?_
  intro w2 hwq
  have hb2:Below (w1).heap.size (w1) w2:=by
   obtain ⟨pq,rfl⟩:=hwq
   exact below_regrown _ _ _
  clear hwq
  have hbb2:=hbb.trans (hb2.mono hbb.size)
  replace Ha:=Qh (Ha.out.below hb2)
  replace Hbx:=Qh ((hb2.block _ (Array.getElem?_eq_some_iff.1 Hbx.out).1).trans Hbx.out)
  replace c0:=Xaa hb2 c0
  replace c1:=Xaa hb2 c1
  replace c2:=Xaa hb2 c2
  replace cb:=Xaa hb2 cb
  have fb:w2.frozen? ⟨bo,0,none⟩=false:=frozen_of_row w2 _ 0 _ _ Hbx.out
  have hB1:B≤w2.heap.size:=by have:=hbb2.size;omega
  clear y0 y1 y2 g0 g1 g2 z0 z1 z2 gb
  have hne:(Value.slice (some ⟨g,0,none⟩) l.length cap).ownBlock≠some bo:=fun e=>by
   obtain ⟨_,cur,hc⟩:=Xar Ha.out e
   rw [Hbx.out] at hc
   exact absurd (Obj.cells.inj (Option.some.inj hc)).2.1 (by decide)
  have hgr1:=Xb5 hbb2 (Value.slice (some ⟨g,0,none⟩) l.length cap).ownBlock
  go_wp2_with (at_builtin;refine Xbk (w0:=w2) Xiq rfl _ _ rfl B _ _ rfl Ha.out x (xtL x) _ rfl rfl (by (try simp only [List.length_nil]);omega) (by (try simp only [List.length_nil]);omega) hB1 ?_)
  intro v9 w9 hown9 hg9 hl9
  obtain ⟨a9,n9,k9,rfl⟩:=Xdk hown9
  have co9:=Xah hg9 hne cb
  have fo9:=Xcu hg9 hne cb fb
  have hgr:=Xco hgr1 hg9
  have hsz:=hgr1.size
  have hbx9:=(hg9.block _ (Array.getElem?_eq_some_iff.1 Hbx.out).1 (fun e=>hne e.symm)).trans Hbx.out
  go_wp2
  go_end0
  refine ⟨_,_,rfl,heap_setCell_same w9 bo 0 _ _ _ hbx9,(by rw [Hn.out];exact hown9.stored (Xbt hown9 hbx9 (by decide)) 0 _),(Gr2.of_grown hgr bo).set 0 _,fun g h=>(hl9 g h).imp id (fun h=>by omega)⟩
 have e3:(y.s==x.s)=true:=by simpa using hss
 by_cases hoo:y.o+y.n=x.o
 case neg=>
  have e4:(y.o+y.n==x.o)=false:=by simpa using hoo
  have Hn:=Qh (Happ.out (by rintro ⟨_,_,h⟩;exact hoo h))
  clear hs0 hss hoo Happ Hmrg
  go_enter Tryz.func254,Tryz.ntmps254
  go_wp2_with fail
  generalize (w.alloc (.cells #[.int .i64 x.s,.int .i64 x.o,.int .i64 x.n] 110))=w1 at hbb c0 c1 c2 cb gb Ha Hbx y0 y1 y2 g0 g1 g2 z0 z1 z2 ⊢
  refine wp_region_quiet_below (by kernel_rfl) (by kernel_rfl) ?_
  repeat (go_big_quiet_step ((fail)))
  refine wpQuiet_nil ?_
  intro w2 hwq
  have hb2:Below (w1).heap.size (w1) w2:=by
   obtain ⟨pq,rfl⟩:=hwq
   exact below_regrown _ _ _
  clear hwq
  have hbb2:=hbb.trans (hb2.mono hbb.size)
  replace Ha:=Qh (Ha.out.below hb2)
  replace Hbx:=Qh ((hb2.block _ (Array.getElem?_eq_some_iff.1 Hbx.out).1).trans Hbx.out)
  replace c0:=Xaa hb2 c0
  replace c1:=Xaa hb2 c1
  replace c2:=Xaa hb2 c2
  replace cb:=Xaa hb2 cb
  have fb:w2.frozen? ⟨bo,0,none⟩=false:=frozen_of_row w2 _ 0 _ _ Hbx.out
  have hB1:B≤w2.heap.size:=by have:=hbb2.size;omega
  clear y0 y1 y2 g0 g1 g2 z0 z1 z2 gb
  have hne:(Value.slice (some ⟨g,0,none⟩) l.length cap).ownBlock≠some bo:=fun e=>by
   obtain ⟨_,cur,hc⟩:=Xar Ha.out e
   rw [Hbx.out] at hc
   exact absurd (Obj.cells.inj (Option.some.inj hc)).2.1 (by decide)
  have hgr1:=Xb5 hbb2 (Value.slice (some ⟨g,0,none⟩) l.length cap).ownBlock
  go_wp2_with (at_builtin;refine Xbk (w0:=w2) Xiq rfl _ _ rfl B _ _ rfl Ha.out x (xtL x) _ rfl rfl (by (try simp only [List.length_nil]);omega) (by (try simp only [List.length_nil]);omega) hB1 ?_)
  intro v9 w9 hown9 hg9 hl9
  obtain ⟨a9,n9,k9,rfl⟩:=Xdk hown9
  have co9:=Xah hg9 hne cb
  have fo9:=Xcu hg9 hne cb fb
  have hgr:=Xco hgr1 hg9
  have hsz:=hgr1.size
  have hbx9:=(hg9.block _ (Array.getElem?_eq_some_iff.1 Hbx.out).1 (fun e=>hne e.symm)).trans Hbx.out
  go_wp2
  go_end0
  refine ⟨_,_,rfl,heap_setCell_same w9 bo 0 _ _ _ hbx9,(by rw [Hn.out];exact hown9.stored (Xbt hown9 hbx9 (by decide)) 0 _),(Gr2.of_grown hgr bo).set 0 _,fun g h=>(hl9 g h).imp id (fun h=>by omega)⟩
 have e4:(y.o+y.n==x.o)=true:=by simpa using hoo
 have Hn:=Qh (Hmrg.out ⟨hs0,hss,hoo⟩)
 clear hs0 hss hoo Happ Hmrg
 go_enter Tryz.func254,Tryz.ntmps254
 go_wp2_with fail
 generalize (w.alloc (.cells #[.int .i64 x.s,.int .i64 x.o,.int .i64 x.n] 110))=w1 at hbb c0 c1 c2 cb gb Ha Hbx y0 y1 y2 g0 g1 g2 z0 z1 z2 ⊢
 refine wp_region_quiet_below (by kernel_rfl) (by kernel_rfl) ?_
 repeat (go_big_quiet_step ((fail)))
 refine wpQuiet_nil ?_
 intro w2 hwq
 have hb2:Below (w1).heap.size (w1) w2:=by
  obtain ⟨pq,rfl⟩:=hwq
  exact below_regrown _ _ _
 clear hwq
 have hbb2:=hbb.trans (hb2.mono hbb.size)
 replace Ha:=Qh (Ha.out.below hb2)
 replace Hbx:=Qh ((hb2.block _ (Array.getElem?_eq_some_iff.1 Hbx.out).1).trans Hbx.out)
 replace c0:=Xaa hb2 c0
 replace c1:=Xaa hb2 c1
 replace c2:=Xaa hb2 c2
 replace cb:=Xaa hb2 cb
 have fb:w2.frozen? ⟨bo,0,none⟩=false:=frozen_of_row w2 _ 0 _ _ Hbx.out
 have hB1:B≤w2.heap.size:=by have:=hbb2.size;omega
 replace y2:=Xaa hb2 y2
 obtain ⟨g',cap',y',hvv,_,hy',_,hlt',_,_,_,hfr'⟩:=Xne Ha.out h0
 cases hvv
 have hfr2:=hfr' ((l.length-1)*3+2)
 have m4:IntKind.i64.wrap (y.n+x.n)=y.n+x.n:=IntWalk.i64_in _ (by omega)
 have hgr1:=Xb5 hbb2 (Value.slice (some ⟨g,0,none⟩) l.length cap).ownBlock
 clear y0 y1 g0 g1 g2 z0 z1 z2 gb hfr hfr' hy' hb2 c0 c1
 have hne:g≠bo:=fun e=>Xbt Ha.out Hbx.out (by decide) (by simp [Value.ownBlock,e])
 go_wp2_with fail
 go_big_region
 go_wp2
 refine bodyPost_ret (results_none rfl _ _ _) rfl ?_
 exact ⟨_,_,rfl,(heap_setCell_other _ ⟨g,(l.length-1)*3+2,none⟩ bo _ (by show bo≠g;omega)).trans Hbx.out,by rw [Hn.out];exact Xs0 Ha.out Hy.out,(by first|exact (Gr2.of_grown hgr1 bo).srow _ _|exact ((Gr2.of_grown hgr1 bo).srow _ _).drew|exact (Gr2.of_grown hgr1 bo).drew.srow _ _),fun q hq=> .inl hq⟩
theorem Xrg (I:IH) (bo B:Nat) (v0:Value) (l:List Xt) (x:Xt) (w:World) (hv:OwnS tXt 110 I w B v0 l) (hbx:w.heap[bo]? =some (.cells #[v0] 33 (0,0))) (hB:B≤w.heap.size) (hn:l.length≤100000) (hl:∀z∈l,XB 1099511627776 z) (hx:XB 1099511627776 x):
 Calls Tryz.prog 254 #[xtW x,.pointer (some ⟨bo,0,none⟩)] w (ColR I bo B w v0 (addX l x)):=by
 cases l with
 |nil=>exact Xve I bo B v0 x w hv hbx hB
 |cons a l=>exact Xvd I bo B v0 (a::l) x w hv hbx hB (by simp) hn hl hx
set_option maxRecDepth 100000 in
theorem Xvc (bo:Nat) (v:Value) (w:World) (hc:w.cell? ⟨bo,0,none⟩=some v):Calls Tryz.prog 255 #[.pointer (some ⟨bo,0,none⟩)] w fun e w'=>e= .returned v∧w'=w:=by
 go_enter Tryz.func255,Tryz.ntmps255
 go_wp2
 go_ret
 exact ⟨rfl,rfl⟩
set_option maxRecDepth 100000 in
theorem Xll (w:World):Calls Tryz.prog 191 #[] w fun e w'=>e= .returned (.tuple #[.func (.func 254) #[] #[.pointer (some ⟨w.heap.size,0,none⟩)],.func (.func 255) #[] #[.pointer (some ⟨w.heap.size,0,none⟩)]])∧w'=w.alloc (.cells #[.slice none 0 0] 33):=by
 go_enter Tryz.func191,Tryz.ntmps191
 go_wp2
 go_ret2
 exact ⟨rfl,rfl⟩
theorem Xai {P:Program} {o:Oper} {a:Act} {w:World} {K:Act→World→Prop} {Q:Exit→Act→World→Prop} (ty:TypeId) (x y:Operand) (ho:o.op= .store ty x y)
 (g off:Nat) (cs:List Value) (v:Value) (hx:a.eval x= .pointer (some ⟨g,off,none⟩)) (hy:a.eval y=v) (hv:v.cells=cs.toArray) (cur:Array Value) (tt:TypeId)
 (hg:w.heap[g]? =some (.cells cur tt (0,0))) (hfit:off+cs.length≤cur.size) (hi:(P.info? ty).map (·.size)=some cs.length) (h1:∀v∈cs,v.oneCell'=true)
 (h:K (a.put o.dst undef) (w.setRow g (over cur off cs))):o.wp P a w K Q:=by
 have hst:=run_storeCells_at (P:=P) g off tt cs 0 cur w hg (by simpa using hfit) h1
 have hsv:(storeVar ty ⟨g,off,none⟩ v).run P w= .ok () (w.setRow g (over cur off cs)):=by
  cases hq:P.info? ty with
  |none=>simp [hq] at hi
  |some i=>
   have hs:cs.length=i.size:=by simp [hq] at hi;omega
   simp only [Nat.add_zero] at hst
   simp [storeVar,sizeOf,typeInfo,hq,hv,hs,hst,over]
 unfold Oper.wp execOp
 simp only [ho,hx,hy,Instr.storeAt,Instr.sureAddr,Sem.run_bind,Sem.run_pure,Result.andThen_ok,hsv]
 exact h
theorem Xhb {w w' w'':World} {r:Option Nat} (h:w.grownBy w' r) (k:w'.grownBy w'' r):w.grownBy w'' r:=
 ⟨k.os.trans h.os,k.tape.trans h.tape,k.output.trans h.output,Nat.le_trans h.size k.size,fun i hi hr=>(k.block i (Nat.lt_of_lt_of_le hi h.size) hr).trans (h.block i hi hr)⟩
theorem Xao {s:Array Bool} {i:Nat} (h:s.size≤i):s.getD i false=false:=by
 rw [Array.getD_eq_getD_getElem?,Array.getElem?_eq_none h];rfl
theorem Xks {ops:Array Oper} {s:Array Bool} (h:Clo ops s) {k i:Nat} (hp:pathB ops [k,i]=true) (hun:s.getD i true=false):s.getD k false=false:=Xae h [i] hp rfl hun
theorem Xa6 {L M:List (Option Tmp × Value)} {s:Array Bool} {a:Act} (D:List Nat) (hl:L.length=M.length) (h:∀j,j ∉ D→L[j]? =M[j]?) (hoff:∀j∈D,s.getD j false=false):fillA L 0 s a=fillA M 0 s a:=
 Xd1 _ _ _ _ _ hl fun j hj=>by
  rw [Nat.zero_add] at hj
  exact h j (fun e=>by rw [hoff j e] at hj;cases hj)
theorem Xbz {α:Type} {T:Ty α} {E:TypeId} {I:IH} {w:World} {B:Nat} {v:Value} {l:List α} (h:OwnS T E I w B v l):∃ao cap,v= .slice ao l.length cap:=by
 obtain ⟨xs,h1,_⟩:=h
 rcases h1.2 with ⟨h,h0⟩|⟨g,cap,cur,h,_⟩
 ·exact ⟨none,0,by rw [h,h0]⟩
 ·exact ⟨_,_,h⟩
structure RgC {Y:Type} (W:World) (jc ja:Nat) (Gc:Y→World→Prop) (Ga:Nat→World→Prop) (m:Nat × Y→Nat) (t:TypeId) (s1 s2 s3:Nat) (R1 R2 R3:Nat × Y→Array Value) (x:Nat × Y) (s:Array Bool) (w:World):Prop where
 off:s.getD s1 false=false→Below W.heap.size W w
 fc:s.getD jc false=true→s.getD s1 false=false→Gc x.2 w
 fa:s.getD ja false=true→s.getD s1 false=false→Ga x.1 w
 on:s.getD s1 false=true→ ∃wb,Below W.heap.size W wb∧Gc x.2 wb∧Ga x.1 wb∧wb.grownBy w (some (m x))∧
  w.heap[m x]? =some (.cells (if s.getD s3 false=true then R3 x else if s.getD s2 false=true then R2 x else R1 x) t (0,0))
section
variable {Y:Type} {W w w':World} {jc ja:Nat} {Gc:Y→World→Prop} {Ga:Nat→World→Prop} {m:Nat × Y→Nat} {t:TypeId} {s1 s2 s3:Nat} {R1 R2 R3:Nat × Y→Array Value} {x:Nat × Y} {s:Array Bool} {i:Nat}
theorem RgC.start (n:Nat) (x:Nat × Y):RgC W jc ja Gc Ga m t s1 s2 s3 R1 R2 R3 x (Array.replicate n false) { W with drawn:=W.drawn+1 }:=
 ⟨fun _=>(Qb _ _).drew,fun h=>(by rw [Xbj] at h;cases h),fun h=>(by rw [Xbj] at h;cases h),fun h=>(by rw [Xbj] at h;cases h)⟩
theorem RgC.pure (h:RgC W jc ja Gc Ga m t s1 s2 s3 R1 R2 R3 x s w) (hc:i≠jc) (ha:i≠ja) (h1:i≠s1) (h2:i≠s2) (h3:i≠s3):RgC W jc ja Gc Ga m t s1 s2 s3 R1 R2 R3 x (s.setIfInBounds i true) w:=by
 refine ⟨?_,?_,?_,?_⟩
 ·rw [getD_set_ne false h1];exact h.off
 ·rw [getD_set_ne false h1,getD_set_ne false hc];exact h.fc
 ·rw [getD_set_ne false h1,getD_set_ne false ha];exact h.fa
 ·rw [getD_set_ne false h1,getD_set_ne false h2,getD_set_ne false h3];exact h.on
theorem RgC.call (h:RgC W jc ja Gc Ga m t s1 s2 s3 R1 R2 R3 x s w) (hl:s.getD s1 false=false) (hb:Below w.heap.size w w') {y:Y} (hy:Gc y w') (hGa:∀k,Ga k w→Ga k w') (ha:jc≠ja) (h1:jc≠s1):
 RgC W jc ja Gc Ga m t s1 s2 s3 R1 R2 R3 (x.1,y) (s.setIfInBounds jc true) w':=by
 refine ⟨fun _=>(h.off hl).trans (hb.mono (h.off hl).size),fun _ _=>hy,?_,?_⟩
 ·rw [getD_set_ne false ha]
  exact fun q _=>hGa _ (h.fa q hl)
 ·rw [getD_set_ne false h1,hl]
  intro q
  cases q
theorem RgC.made (h:RgC W jc ja Gc Ga m t s1 s2 s3 R1 R2 R3 x s w) (hl:s.getD s1 false=false) (hb:Below w.heap.size w w') {k:Nat} (hk:Ga k w') (hGc:∀y,Gc y w→Gc y w') (hc:ja≠jc) (h1:ja≠s1):
 RgC W jc ja Gc Ga m t s1 s2 s3 R1 R2 R3 (k,x.2) (s.setIfInBounds ja true) w':=by
 refine ⟨fun _=>(h.off hl).trans (hb.mono (h.off hl).size),?_,fun _ _=>hk,?_⟩
 ·rw [getD_set_ne false hc]
  exact fun q _=>hGc _ (h.fc q hl)
 ·rw [getD_set_ne false h1,hl]
  intro q
  cases q
theorem RgC.put1 (h:RgC W jc ja Gc Ga m t s1 s2 s3 R1 R2 R3 x s w) (hun:s.getD s1 true=false) (hc:Gc x.2 w) (ha:Ga x.1 w) (h2:s.getD s2 false=false) (h3:s.getD s3 false=false) (hd:s1≠s2∧s1≠s3)
 {cur:Array Value} (hg:w.heap[m x]? =some (.cells cur t (0,0))) {R:Array Value} (hR:R=R1 x):RgC W jc ja Gc Ga m t s1 s2 s3 R1 R2 R3 x (s.setIfInBounds s1 true) (w.setRow (m x) R):=by
 have e:=Xba (Xdh hun)
 have hl:s.getD s1 false=false:=Xan hun
 refine ⟨fun q=>(by rw [e] at q;cases q),fun _ q=>(by rw [e] at q;cases q),fun _ q=>(by rw [e] at q;cases q),fun _=>⟨w,h.off hl,hc,ha,Xas,?_⟩⟩
 rw [getD_set_ne false hd.1,getD_set_ne false hd.2,h2,h3,hR]
 exact setRow_heap w (m x) cur _ t (0,0) hg
end
def RetQ (I:IH) (w:World) (q:Sto) (n:Int) (e:Ending) (w':World):Prop:=
 ∃vc' I',e= .returned (.tuple #[stoV q vc',.int .i64 n])∧Below w.heap.size w w'∧Ext w.heap.size I I'∧Ok I' w'∧RdS tCk I' vc' q.cks
abbrev bgL (n:Nat) (ao:Option Addr) (le cap:Nat) (ses:Int) (str:Bytes) (x:Nat × (Option Addr × Nat)):List (Option Tmp × Value):=
 [(some 7,.pointer (some ⟨n,0,none⟩)),(some 8,.slice ao le cap),(some 9,.slice x.2.1 le x.2.2),(some 10,.pointer (some ⟨n,1,none⟩)),(some 11,.int .i64 ses),(some 12,.pointer (some ⟨n,2,none⟩)),(some 13,S str),(some 14,.agg #[.slice x.2.1 le x.2.2,.int .i64 ses,S str]),(some 6,.pointer (some ⟨x.1,0,none⟩)),(none,undef)]
theorem Xa0 {n:Nat} {ao:Option Addr} {le cap:Nat} {ses:Int} {str:Bytes} {x:Nat × (Option Addr × Nat)}:ApartF (bgL n ao le cap ses str x):=by
 unfold ApartF
 simp
set_option maxRecDepth 100000 in
set_option maxHeartbeats 4000000 in
theorem Xnr (I:IH) (s:Sto) (vc:Value) (hv:RdS tCk I vc s.cks) (hn:s.cks.length≤1000000000) (n:Int) (w:World) (hw:Ok I w):
 Calls Tryz.prog 76 #[stoV s vc,.int .i64 n] w (RetQ I w (beginP s n).1 (beginP s n).2):=by
 obtain ⟨ao,cap,rfl,_,_,_⟩:=id hv
 have Hcl:=Qh (fun w hw=>Xns I _ s.cks hv w hw (by omega))
 obtain ⟨W2,hW2⟩:∃W2,((w.alloc (.cells #[.slice ao s.cks.length cap,.int .i64 s.ses,S s.str] 89)).alloc (.cells #[.slice none 0 0,.int .i64 0,S []] 89))=W2:=⟨_,rfl⟩
 have hok2:Ok I W2:=by rw [←hW2];exact (hw.alloc _).alloc _
 have hsz2:W2.heap.size=w.heap.size+2:=by rw [←hW2];simp
 have Hr0:=Qh (show W2.heap[w.heap.size]? =some (.cells #[.slice ao s.cks.length cap,.int .i64 s.ses,S s.str] 89 (0,0)) by rw [←hW2];exact (Below.heap_alloc _ _ _ (by simp)).trans (heap_alloc_new w _))
 have Hr1:=Qh (show W2.heap[w.heap.size+1]? =some (.cells #[.slice none 0 0,.int .i64 0,S []] 89 (0,0)) by
  rw [←hW2]
  have h:=heap_alloc_new (w.alloc (.cells #[.slice ao s.cks.length cap,.int .i64 s.ses,S s.str] 89)) (.cells #[.slice none 0 0,.int .i64 0,S []] 89)
  simpa using h)
 have hb2:Below w.heap.size w W2:=by rw [←hW2];exact ((Qb _ _).alloc (Qn _) _).alloc (by simp) _
 have c0:W2.cell? ⟨w.heap.size,0,none⟩=some (.slice ao s.cks.length cap):=(cell_of_row _ _ 0 _ _ _ Hr0.out).trans rfl
 have c1:W2.cell? ⟨w.heap.size,1,none⟩=some (.int .i64 s.ses):=(cell_of_row _ _ 1 _ _ _ Hr0.out).trans rfl
 have c2:W2.cell? ⟨w.heap.size,2,none⟩=some (S s.str):=(cell_of_row _ _ 2 _ _ _ Hr0.out).trans rfl
 clear hv
 go_enter Tryz.func76,Tryz.ntmps76
 go_wp2_with fail
 refine Xak (X:=Nat × (Option Addr × Nat)) (bgL w.heap.size ao s.cks.length cap s.ses s.str) (RgC W2 2 8 (fun y w=>OwnS tCk 181 I w W2.heap.size (.slice y.1 s.cks.length y.2) s.cks) (fun k w=>w.heap[k]? =some (.cells #[.slice none 0 0,.int .i64 0,S []] 89 (0,0))∧W2.heap.size≤k) (fun x=>x.1) 89 9 211 212 (fun x=> #[.slice x.2.1 s.cks.length x.2.2,.int .i64 s.ses,S s.str]) (fun x=> #[.slice x.2.1 s.cks.length x.2.2,.int .i64 s.ses,S s.str]) (fun x=> #[.slice x.2.1 s.cks.length x.2.2,.int .i64 s.ses,S s.str])) (by kernel_rfl) (by kernel_rfl) ?_ ?_ ?_
 ·exact ⟨(0,default),RgC.start _ _⟩
 ·rintro x s' a' w' i hsz hcl ha hC hi
  obtain ⟨hun,oi,hoi,hall⟩:=mem_ready.1 hi
  rcases i with _|_|_|_|_|_|_|_|_|_|i
  rotate_left 10
  ·simp at hoi
  all_goals
   have hoj:=hoi
   simp at hoi
   subst hoi
   simp [Region.binds] at hall
  ·have e2:a'.tmps[2]?.getD undef= .pointer (some ⟨w.heap.size,0,none⟩):=Xbl ha (by simp)
   refine wpOp_step hoj (fun K' hK=> ?_)
   rw [if_pos (by rfl)]
   unfold Oper.wp
   simp [go_sem,e2,Oper.upon]
   exact hK _ _ ⟨x,Xad (d:=some 7) (v:= .pointer (some ⟨w.heap.size,0,none⟩)) Xa0 ha rfl hun,hC.pure (by decide) (by decide) (by decide) (by decide) (by decide)⟩
  ·have e7:a'.tmps[7]?.getD undef= .pointer (some ⟨w.heap.size,0,none⟩):=Xap (i:=0) Xa0 ha rfl (by first|simpa using hall|simp [hall]) (by simp)
   have hl:s'.getD 9 false=false:=Xae hcl [1] (by kernel_rfl) (by rfl) hun
   have cq:=Xaa (hC.off hl) c0
   refine wpOp_step hoj (fun K' hK=> ?_)
   rw [if_pos (by rfl)]
   unfold Oper.wp
   simp [go_sem,e7,cq,Oper.upon]
   exact hK _ _ ⟨x,Xad (d:=some 8) (v:= .slice ao s.cks.length cap) Xa0 ha rfl hun,hC.pure (by decide) (by decide) (by decide) (by decide) (by decide)⟩
  ·have e8:a'.tmps[8]?.getD undef= .slice ao s.cks.length cap:=Xap (i:=1) Xa0 ha rfl (by first|simpa using hall|simp [hall]) (by simp)
   have hl:s'.getD 9 false=false:=Xae hcl [2] (by kernel_rfl) (by rfl) hun
   have hokw:=hok2.below (Qn _) (hC.off hl)
   refine wpOp_step hoj (fun K' hK=> ?_)
   rw [if_pos (by rfl)]
   unfold Oper.wp
   simp [go_sem,e8,Oper.upon]
   refine (Hcl.out _ hokw).mono ?_
   rintro r4 w4 ⟨v7,rfl,ho,hb4⟩
   obtain ⟨a7,k7,rfl⟩:=Xbz ho
   have ha:=ha.trans (Xa6 (L:=bgL w.heap.size ao s.cks.length cap s.ses s.str x) (M:=bgL w.heap.size ao s.cks.length cap s.ses s.str (x.1,(a7,k7))) [2,7] rfl (fun j hne=>by
    rcases j with _|_|_|_|_|_|_|_|_|_|j<;>first|rfl|(exact absurd (by decide) hne)|simp) (List.forall_mem_cons.2 ⟨Xan hun,List.forall_mem_cons.2 ⟨Xae hcl [2] (by kernel_rfl) (by rfl) hun,List.forall_mem_nil _⟩⟩))
   exact hK _ _ ⟨(x.1,(a7,k7)),Xad (d:=some 9) (v:= .slice (a7,k7).1 s.cks.length (a7,k7).2) Xa0 ha rfl hun,hC.call hl hb4 (ho.lower (hC.off hl).size) (fun k hk=>⟨(hb4.block _ (Array.getElem?_eq_some_iff.1 hk.1).1).trans hk.1,hk.2⟩) (by decide) (by decide)⟩
  ·have e2:a'.tmps[2]?.getD undef= .pointer (some ⟨w.heap.size,0,none⟩):=Xbl ha (by simp)
   refine wpOp_step hoj (fun K' hK=> ?_)
   rw [if_pos (by rfl)]
   unfold Oper.wp
   simp [go_sem,e2,Oper.upon]
   exact hK _ _ ⟨x,Xad (d:=some 10) (v:= .pointer (some ⟨w.heap.size,1,none⟩)) Xa0 ha rfl hun,hC.pure (by decide) (by decide) (by decide) (by decide) (by decide)⟩
  ·have e10:a'.tmps[10]?.getD undef= .pointer (some ⟨w.heap.size,1,none⟩):=Xap (i:=3) Xa0 ha rfl (by first|simpa using hall|simp [hall]) (by simp)
   have hl:s'.getD 9 false=false:=Xae hcl [4] (by kernel_rfl) (by rfl) hun
   have cq:=Xaa (hC.off hl) c1
   refine wpOp_step hoj (fun K' hK=> ?_)
   rw [if_pos (by rfl)]
   unfold Oper.wp
   simp [go_sem,e10,cq,Oper.upon]
   exact hK _ _ ⟨x,Xad (d:=some 11) (v:= .int .i64 s.ses) Xa0 ha rfl hun,hC.pure (by decide) (by decide) (by decide) (by decide) (by decide)⟩
  ·have e2:a'.tmps[2]?.getD undef= .pointer (some ⟨w.heap.size,0,none⟩):=Xbl ha (by simp)
   refine wpOp_step hoj (fun K' hK=> ?_)
   rw [if_pos (by rfl)]
   unfold Oper.wp
   simp [go_sem,e2,Oper.upon]
   exact hK _ _ ⟨x,Xad (d:=some 12) (v:= .pointer (some ⟨w.heap.size,2,none⟩)) Xa0 ha rfl hun,hC.pure (by decide) (by decide) (by decide) (by decide) (by decide)⟩
  ·have e12:a'.tmps[12]?.getD undef= .pointer (some ⟨w.heap.size,2,none⟩):=Xap (i:=5) Xa0 ha rfl (by first|simpa using hall|simp [hall]) (by simp)
   have hl:s'.getD 9 false=false:=Xae hcl [6] (by kernel_rfl) (by rfl) hun
   have cq:=Xaa (hC.off hl) c2
   refine wpOp_step hoj (fun K' hK=> ?_)
   rw [if_pos (by rfl)]
   unfold Oper.wp
   simp [go_sem,e12,cq,Oper.upon]
   exact hK _ _ ⟨x,Xad (d:=some 13) (v:=S s.str) Xa0 ha rfl hun,hC.pure (by decide) (by decide) (by decide) (by decide) (by decide)⟩
  ·have e9:a'.tmps[9]?.getD undef= .slice x.2.1 s.cks.length x.2.2:=Xap (i:=2) Xa0 ha rfl (by first|simpa using hall|simp [hall]) (by simp)
   have e11:a'.tmps[11]?.getD undef= .int .i64 s.ses:=Xap (i:=4) Xa0 ha rfl (by first|simpa using hall|simp [hall]) (by simp)
   have e13:a'.tmps[13]?.getD undef=S s.str:=Xap (i:=6) Xa0 ha rfl (by first|simpa using hall|simp [hall]) (by simp)
   refine wpOp_step hoj (fun K' hK=> ?_)
   rw [if_pos (by rfl)]
   unfold Oper.wp
   simp [go_sem,e9,e11,e13,Oper.upon]
   exact hK _ _ ⟨x,Xad (d:=some 14) (v:= .agg #[.slice x.2.1 s.cks.length x.2.2,.int .i64 s.ses,S s.str]) Xa0 ha rfl hun,hC.pure (by decide) (by decide) (by decide) (by decide) (by decide)⟩
  ·have hl:s'.getD 9 false=false:=Xae hcl [8] (by kernel_rfl) (by rfl) hun
   refine wpOp_step hoj (fun K' hK=> ?_)
   rw [if_pos (by rfl)]
   unfold Oper.wp
   simp [go_sem,Oper.upon]
   have ha:=ha.trans (Xa6 (L:=bgL w.heap.size ao s.cks.length cap s.ses s.str x) (M:=bgL w.heap.size ao s.cks.length cap s.ses s.str (w'.heap.size,x.2)) [8] rfl (fun j hne=>by
    rcases j with _|_|_|_|_|_|_|_|_|_|j<;>first|rfl|(exact absurd (by decide) hne)|simp) (List.forall_mem_cons.2 ⟨Xan hun,List.forall_mem_nil _⟩))
   exact hK _ _ ⟨(w'.heap.size,x.2),Xad (d:=some 6) (v:= .pointer (some ⟨w'.heap.size,0,none⟩)) Xa0 ha rfl hun,hC.made hl ((Qb _ _).alloc (Qn _) _) ⟨heap_alloc_new _ _,(hC.off hl).size⟩ (fun y hy=>hy.alloc _) (by decide) (by decide)⟩
  ·have e14:a'.tmps[14]?.getD undef= .agg #[.slice x.2.1 s.cks.length x.2.2,.int .i64 s.ses,S s.str]:=Xap (i:=7) Xa0 ha rfl (by first|simpa using hall|simp [hall]) (by simp)
   have e6:a'.tmps[6]?.getD undef= .pointer (some ⟨x.1,0,none⟩):=Xap (i:=8) Xa0 ha rfl (by first|simpa using hall|simp [hall]) (by simp)
   refine wpOp_step hoj (fun K' hK=> ?_)
   rw [if_pos (by rfl)]
   have hsc:s'.getD 2 false=true:=by first|simpa using hall|simp [hall]
   have hsa:s'.getD 8 false=true:=by first|simpa using hall|simp [hall]
   have hlo:s'.getD 9 false=false:=Xan hun
   have hrow:w'.heap[x.1]? =some (.cells _ 89 (0,0)):=(hC.fa hsa hlo).1
   refine Xai 89 _ _ rfl (x.1) 0 [.slice x.2.1 s.cks.length x.2.2,.int .i64 s.ses,S s.str] (.agg #[.slice x.2.1 s.cks.length x.2.2,.int .i64 s.ses,S s.str]) (by simp [Act.eval,e14,e6]) (by simp [Act.eval,e14,e6]) (by rfl) _ _ hrow (by simp) (by kernel_rfl) (by simp [Value.oneCell']) ?_
   exact hK _ _ ⟨x,Xad (d:=none) (v:=undef) Xa0 ha rfl hun,hC.put1 hun (hC.fc hsc hlo) (hC.fa hsa hlo) (Xao (by simp [hsz])) (Xao (by simp [hsz])) (by decide) hrow (by rfl)⟩
 ·rintro x s' a' w8 hup ha hC
  obtain ⟨wb,hbW,hGc,hGa,hgr,hrow⟩:=hC.on (hup 9 (by decide))
  simp only [ite_self] at hrow
  rw [Xbb _ _ _ _ (fun i hi=>by rw [Nat.zero_add];exact hup i (by simpa using hi))] at ha
  subst ha
  simp only [fillAll,Act.put]
  obtain ⟨m,ao7,k7⟩:=x
  dsimp only at hGc hGa hgr hrow ⊢
  have hne:=Xbt hGc hGa.1 (by decide)
  have ho8:=hGc.kept hgr (.inr hne)
  have hm:w.heap.size+2≤m:=by have:=hGa.2;omega
  have hok8:Ok I w8:=(hok2.below (Qn _) hbW).grown hgr (fun g e=>by cases e;exact hw.fresh (by omega))
  have hbb:Below w.heap.size w w8:=(hb2.trans (hbW.mono hb2.size)).grown hgr (by have:=hbW.size;omega) (fun k e=>by cases e;omega)
  obtain ⟨J,hxJ,hokJ,hrJ,hJI⟩:=ho8.freeze hok8 (fun b hb=>hw.fresh (by omega))
  have HJ:=Qh (And.intro (hxJ.mono (show w.heap.size≤W2.heap.size by omega)) (And.intro hokJ hrJ))
  have hz:∀b,b<w.heap.size+2→w8.heap[b]? =W2.heap[b]? :=fun b hb=>(hgr.block _ (by have:=hbW.size;omega) (fun e=>by cases e;omega)).trans (hbW.block _ (by omega))
  have Hr8:=Qh ((hz (w.heap.size+1) (by omega)).trans Hr1.out)
  have hJm:J m=none:=by rw [hJI m hne];exact hw.fresh (by omega)
  have a1:w8.cell? ⟨w.heap.size,1,none⟩=some (.int .i64 s.ses):=(cell_of_row _ _ 1 _ _ _ ((hz w.heap.size (by omega)).trans Hr0.out)).trans rfl
  have d0:w8.cell? ⟨m,0,none⟩=some (.slice ao7 s.cks.length k7):=(cell_of_row _ _ 0 _ _ _ hrow).trans rfl
  have d1:w8.cell? ⟨m,1,none⟩=some (.int .i64 s.ses):=(cell_of_row _ _ 1 _ _ _ hrow).trans rfl
  have d2:w8.cell? ⟨m,2,none⟩=some (S s.str):=(cell_of_row _ _ 2 _ _ _ hrow).trans rfl
  have f0:=frozen_of_row w8 _ 0 _ _ hrow
  have f1:=frozen_of_row w8 _ 1 _ _ hrow
  have f2:=frozen_of_row w8 _ 2 _ _ hrow
  have g0:=frozen_of_row w8 _ 0 _ _ Hr8.out
  have g1:=frozen_of_row w8 _ 1 _ _ Hr8.out
  have g2:=frozen_of_row w8 _ 2 _ _ Hr8.out
  have k0:w8.cell? ⟨w.heap.size+1,0,none⟩=some (.slice none 0 0):=(cell_of_row _ _ 0 _ _ _ Hr8.out).trans rfl
  have k1:w8.cell? ⟨w.heap.size+1,1,none⟩=some (.int .i64 0):=(cell_of_row _ _ 1 _ _ _ Hr8.out).trans rfl
  have k2:w8.cell? ⟨w.heap.size+1,2,none⟩=some (S []):=(cell_of_row _ _ 2 _ _ _ Hr8.out).trans rfl
  have hne1:m≠w.heap.size+1:=by omega
  have hne2:w.heap.size+1≠m:=by omega
  have Hrm:=Qh hrow
  have Hi3:=Qh (show (Tryz.prog.info? 89).map (·.size)=some 3 by kernel_rfl)
  have hI1:I (w.heap.size+1)=none:=hw.fresh (by omega)
  have hJ1:J (w.heap.size+1)=none:=by rw [hxJ _ (by omega)];exact hI1
  clear hz hGc hGa hgr hrow hne ho8 hbW hC hup hxJ hokJ hrJ hJI c0 c1 c2 Hr0 Hr1 Hcl hok8
  by_cases h1:n<1
  ·have e1:decide (n<1)=true:=Qt h1
   have Hn:=Qh (show beginP s n=(s,2) by rw [beginP,if_pos (.inl h1)])
   clear h1
   go_wp2
   refine bodyPost_ret (v:= .tuple #[stoV s (.slice ao7 s.cks.length k7),.int .i64 2]) ?_ rfl ?_
   ·rw [results_cell_tmp rfl]
    simp [asAddr,run_loadVar_row _ (w.heap.size+1) 89 89 #[.slice ao7 s.cks.length k7,.int .i64 s.ses,S s.str] (0,0) _ (Xc5 Hr8.out) Tryz.underlying89 rfl Hi3.out]
   ·rw [Hn.out]
    exact ⟨_,J,rfl,((hbb.setCell (p:=⟨w.heap.size+1,0,none⟩) (Nat.le_succ _) _).setCell (p:=⟨w.heap.size+1,1,none⟩) (Nat.le_succ _) _).setCell (p:=⟨w.heap.size+1,2,none⟩) (Nat.le_succ _) _,HJ.out.1,((HJ.out.2.1.setCell hJ1 _).setCell hJ1 _).setCell hJ1 _,HJ.out.2.2⟩
  have e1:decide (n<1)=false:=Qf h1
  by_cases h2:255<n
  ·have e2:decide (255<n)=true:=Qt h2
   have Hn:=Qh (show beginP s n=(s,2) by rw [beginP,if_pos (.inr h2)])
   clear h1 h2
   go_wp2
   refine bodyPost_ret (v:= .tuple #[stoV s (.slice ao7 s.cks.length k7),.int .i64 2]) ?_ rfl ?_
   ·rw [results_cell_tmp rfl]
    simp [asAddr,run_loadVar_row _ (w.heap.size+1) 89 89 #[.slice ao7 s.cks.length k7,.int .i64 s.ses,S s.str] (0,0) _ (Xc5 Hr8.out) Tryz.underlying89 rfl Hi3.out]
   ·rw [Hn.out]
    exact ⟨_,J,rfl,((hbb.setCell (p:=⟨w.heap.size+1,0,none⟩) (Nat.le_succ _) _).setCell (p:=⟨w.heap.size+1,1,none⟩) (Nat.le_succ _) _).setCell (p:=⟨w.heap.size+1,2,none⟩) (Nat.le_succ _) _,HJ.out.1,((HJ.out.2.1.setCell hJ1 _).setCell hJ1 _).setCell hJ1 _,HJ.out.2.2⟩
  have e2:decide (255<n)=false:=Qf h2
  by_cases h3:n≤s.ses
  ·have e3:decide (n≤s.ses)=true:=Qt h3
   have Hn:=Qh (show beginP s n=(s,14) by rw [beginP,if_neg (by omega),if_pos h3])
   clear h1 h2 h3
   go_wp2
   refine bodyPost_ret (v:= .tuple #[stoV s (.slice ao7 s.cks.length k7),.int .i64 14]) ?_ rfl ?_
   ·rw [results_cell_tmp rfl]
    simp [asAddr,run_loadVar_row _ (w.heap.size+1) 89 89 #[.slice ao7 s.cks.length k7,.int .i64 s.ses,S s.str] (0,0) _ (Xc5 Hr8.out) Tryz.underlying89 rfl Hi3.out]
   ·rw [Hn.out]
    exact ⟨_,J,rfl,((hbb.setCell (p:=⟨w.heap.size+1,0,none⟩) (Nat.le_succ _) _).setCell (p:=⟨w.heap.size+1,1,none⟩) (Nat.le_succ _) _).setCell (p:=⟨w.heap.size+1,2,none⟩) (Nat.le_succ _) _,HJ.out.1,((HJ.out.2.1.setCell hJ1 _).setCell hJ1 _).setCell hJ1 _,HJ.out.2.2⟩
  have e3:decide (n≤s.ses)=false:=Qf h3
  have Hn:=Qh (show beginP s n=(⟨s.cks,n,[]⟩,0) by rw [beginP,if_neg (by omega),if_neg h3])
  clear h1 h2 h3
  have Hr8b:=Qh (show ((w8.setCell ⟨m,1,none⟩ (.int .i64 n)).setCell ⟨m,2,none⟩ (.string ⟨#[]⟩)).heap[w.heap.size+1]? =some (.cells #[.slice none 0 0,.int .i64 0,S []] 89 (0,0)) from (heap_setCell_other _ ⟨m,2,none⟩ _ _ (by show w.heap.size+1≠m;omega)).trans ((heap_setCell_other _ ⟨m,1,none⟩ _ _ (by show w.heap.size+1≠m;omega)).trans Hr8.out))
  go_wp2
  refine bodyPost_ret (v:= .tuple #[stoV ⟨s.cks,n,[]⟩ (.slice ao7 s.cks.length k7),.int .i64 0]) ?_ rfl ?_
  ·rw [results_cell_tmp rfl]
   simp [asAddr,run_loadVar_row _ (w.heap.size+1) 89 89 #[.slice ao7 s.cks.length k7,.int .i64 n,S []] (0,0) _ (Xc5 Hr8b.out) Tryz.underlying89 rfl Hi3.out]
  ·rw [Hn.out]
   exact ⟨_,J,rfl,((((hbb.setCell (p:=⟨m,1,none⟩) (by show w.heap.size≤m;omega) _).setCell (p:=⟨m,2,none⟩) (by show w.heap.size≤m;omega) _).setCell (p:=⟨w.heap.size+1,0,none⟩) (Nat.le_succ _) _).setCell (p:=⟨w.heap.size+1,1,none⟩) (Nat.le_succ _) _).setCell (p:=⟨w.heap.size+1,2,none⟩) (Nat.le_succ _) _,HJ.out.1,((((HJ.out.2.1.setCell hJm _).setCell hJm _).setCell hJ1 _).setCell hJ1 _).setCell hJ1 _,HJ.out.2.2⟩
end Go.Proofs.YtkipnpjagcfcpaaGreatDoor
