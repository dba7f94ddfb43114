/-
  Walks and laws that the claim's theorem uses: texts BmS HiP EeP Inv Inw ApS RfA RfC EeA EeB, joined; comments out. Conditions: as each theorem says.
-/
import Derived.Test.YtjdednajelommaaGreatDoorQ13
import Derived.Laws.MakeOwn
import Derived.RegionTactic
import Derived.Maps.AppendAt
namespace Go.Proofs.YtjdednajelommaaGreatDoor
open Go.RowKit
def sumStart:List Int:= [bits .xor .u32 1779033703 16842784,3144134277,1013904242,2773480762,1359893119,2600822924,528734635,1541459225]
def hAt (s:Bytes):Nat→List Int
 |0=>sumStart
 |i+1=>compressP (hAt s i) ((s.drop (64*i)).take 64) ((64*i+64:Nat):Int) false
theorem Xda (s:Bytes):∀i,(hAt s i).length=8
 |0=>rfl
 |_+1=>Xbb ..
def lastAt (s:Bytes):Nat:=(s.length-1) / 64
def sumWords (s:Bytes):List Int:=compressP (hAt s (lastAt s)) (s.drop (64*lastAt s)++List.replicate (64-(s.length-64*lastAt s)) 0) (s.length:Int) true
def tB:Ty Int:=Ty.flat 1 (fun x=> [.int .u8 x]) (fun _=>rfl) (fun _ u h=>by simp at h;subst h;rfl)
def wordBytes (x:Int):List Int:= [x%256,x / 256%256,x / 65536%256,x / 16777216%256]
def outTo (G:List Int) (k:Nat):List Int:=(G.take k).flatMap wordBytes
theorem Xph (G:List Int) (k:Nat) (hk:k<G.length):outTo G (k+1)=outTo G k++wordBytes (G.getD k 0):=by
 rw [outTo,outTo,List.take_succ_eq_append_getElem hk,List.flatMap_append]
 simp [List.getD,List.getElem?_eq_getElem hk]
theorem Xf3 (G:List Int):∀k,(outTo G k).length≤4*k:=by
 intro k
 have:∀L:List Int,(L.flatMap wordBytes).length=4*L.length:=by
  intro L
  induction L with
  |nil=>rfl
  |cons x L ih=>rw [List.flatMap_cons,List.length_append,ih];simp [wordBytes];omega
 rw [outTo,this];simp;omega
theorem Xh6 (I:IH) (x:Int):LiesL tB I [.int .u8 (x%256),.int .u8 (x / 256%256),.int .u8 (x / 65536%256),.int .u8 (x / 16777216%256)] (wordBytes x):=
 (((LiesL.one (T:=tB) (I:=I) (x:=x%256) (cs:= [.int .u8 (x%256)]) rfl).append (LiesL.one (T:=tB) (x:=x / 256%256) (cs:= [.int .u8 (x / 256%256)]) rfl)).append (LiesL.one (T:=tB) (x:=x / 65536%256) (cs:= [.int .u8 (x / 65536%256)]) rfl)).append (LiesL.one (T:=tB) (x:=x / 16777216%256) (cs:= [.int .u8 (x / 16777216%256)]) rfl)
theorem Xst {I:IH} {xs:List Value} {l:List Int} (h:LiesL tB I xs l) (j:Nat) (hj:j<l.length):xs[j]? =some (.int .u8 l[j]):=by
 obtain ⟨cs,h1,h2⟩:=h.2 j hj
 have e:cs= [.int .u8 l[j]]:=h1
 subst e
 have:=h2 0 _ rfl
 rw [show j*tB.size+0=j by show j*1+0=j;omega] at this
 exact this
theorem Xfa:∀(l:List Int) (a:ByteArray),List.foldl (fun r n=>r.push (UInt8.ofNat n.toNat)) a l=⟨a.data++(l.map fun x=>UInt8.ofNat x.toNat).toArray⟩
 | [],a=>by simp
 |x::l,a=>by
  rw [List.foldl_cons,Xfa l]
  apply ByteArray.ext
  simp [ByteArray.push]
theorem Xtc (l:List Int):List.foldl (fun r n=>r.push (UInt8.ofNat n.toNat)) ByteArray.empty l=⟨(l.map fun x=>UInt8.ofNat x.toNat).toArray⟩:=by
 rw [Xfa]
 apply ByteArray.ext
 show (#[]:Array UInt8)++_=_
 simp
theorem Xjv {P:Program} {I:IH} {E src dst e:TypeId} {v:Value} {l:List Int} {B:Nat} (hs:P.underlying src=some (.slice e)) (he:P.underlying e=some (.int .u8)) (hd:P.underlying dst=some .string) (W:World) (h:OwnS tB E I W B v l) (hl:0<l.length):
 (convert src dst v).run P W= .ok (S (l.map fun x=>UInt8.ofNat x.toNat)) W:=by
 obtain ⟨xs,⟨_,hcase⟩,hL⟩:=h
 rcases hcase with ⟨_,h0⟩|⟨g,cap,cur,rfl,_,hg,_,_,_,ht⟩
 ·omega
 ·rw [run_convert_bytes_string _ _ _ e _ _ _ hs he hd,run_bytesToString (ns:=l)]
  ·rw [Xtc]
  ·have hc:=run_loadCells_list (P:=P) W ⟨g,0,none⟩ (l.map fun x=>Value.int .u8 x) (fun j u hu=>by
    have hj:j<l.length:=by simpa using (List.getElem?_eq_some_iff.1 hu).1
    rw [Addr.add_lit,Nat.zero_add,cell_of_row _ _ _ _ _ _ hg]
    have h1:=Xst hL j hj
    rw [←ht,List.getElem?_take] at h1
    split at h1
    ·rw [←Array.getElem?_toList,h1];simpa [hj] using hu
    ·cases h1)
   simpa using hc
def sumP (s:Bytes):Bytes:=(outTo (sumWords s) 8).map fun x=>UInt8.ofNat x.toNat
theorem Xi1:(Tryz.prog.info? 5).map (fun i=>(i.zero,i.size,i.bytes))=some (some (.int .u8 0),1,1):=by kernel_rfl
theorem Xua:∃ZZ:Array Value,ZZ.size=32∧ ∀W,(Instr.makeSlice 72 (.int .i64 0) (.int .i64 32)).run Tryz.prog W= .ok (.slice (some ⟨W.heap.size,0,none⟩) 0 32) (W.alloc (.cells ZZ 5)):=by
 obtain ⟨i,h1,h2,h3,h4⟩:=info_parts Xi1
 refine ⟨madeCells (Value.int .u8 0).cells (32*i.size),by rw [size_madeCells,h3],fun W=> ?_⟩
 exact run_make (P:=Tryz.prog) W 72 5 i _ Tryz.underlying72 h1 h2 .i64 .i64 0 32 (by omega) (by omega) (by rw [h4];omega) (by omega)
theorem Xgs:ElemOk Tryz.prog 72 5 tB 1:=ElemOk.of Tryz.underlying72 Xi1 rfl (by decide) rfl
set_option maxRecDepth 100000 in
set_option maxHeartbeats 2000000 in
theorem Xoj (b off cap:Nat) (l:List Bytes) (s:Bytes) (hl:l.flatten=s) (hs:s.length≤140737488355328) (w:World) (hc:∀(j:Nat) x,l[j]? =some x→w.cell? ⟨b,off+j,none⟩=some (S x)) (hcap:l.length≤cap) (hbl:b<w.heap.size) (hn:l.length≤1000000):
 Calls Tryz.prog 96 #[.slice (some ⟨b,off,none⟩) l.length cap] w fun e w'=>e= .returned (S (sumP s))∧Below w.heap.size w w':=by
 have Hj:=Qh (Xq9 b off cap l w hc hcap hbl hn (by rw [hl];exact hs))
 rw [hl] at Hj
 clear hc hl hcap hn hbl
 go_enter Tryz.func96,Tryz.ntmps96
 go_wp2_with fail
 refine Hj.out.mono ?_
 rintro e w0 ⟨rfl,hb0⟩
 clear Hj
 go_wp2_with fail
 refine (Xh1 _).mono ?_
 rintro e w1 ⟨rfl,hb1a⟩
 have hb1:=hb0.trans (hb1a.mono hb0.size)
 clear hb0 hb1a
 rw [show row blkIV= #[.int .u32 1779033703,.int .u32 3144134277,.int .u32 1013904242,.int .u32 2773480762,.int .u32 1359893119,.int .u32 2600822924,.int .u32 528734635,.int .u32 1541459225] from rfl]
 go_wp2_with fail
 obtain ⟨B,hBe⟩:∃B,w1.heap.size=B:=⟨_,rfl⟩
 have hBw:w.heap.size≤B:=by rw [←hBe];exact hb1.size
 have Hst:=Qh (show (w1.alloc (.cells (row sumStart) 184)).heap[B]? =some (.cells (row (hAt s 0)) 184 (0,0)) by rw [←hBe];exact heap_alloc_new _ _)
 have Hbl:=Qh (show Below w.heap.size w (w1.alloc (.cells (row sumStart) 184)) from hb1.alloc hb1.size _)
 rw [hBe]
 clear hb1 hBe
 obtain ⟨L,hL⟩:∃L,lastAt s=L:=⟨_,rfl⟩
 have hL':L=(s.length-1) / 64:=hL.symm
 have HL:=Qh hL;clear hL
 go_loopw [5] (fun s5 wr=> ∃i:Nat,i≤L∧s5= .int .i64 (64*(i:Int))∧Below w.heap.size w wr∧B<wr.heap.size∧wr.heap[B]? =some (.cells (row (hAt s i)) 184 (0,0))) (fun i _=>s.length-(intOf i).toNat)
 case atStart=>exact ⟨0,Nat.zero_le _,rfl,Hbl.out,(by have:=Hst.out;exact (Array.getElem?_eq_some_iff.1 this).1),Hst.out⟩
 case round=>
  clear Hst Hbl
  obtain ⟨i,hi,rfl,hb,hBs,hB⟩:=hrel
  by_cases hlt:i<L
  ·have hlen:64*i+64<s.length:=by omega
   obtain ⟨e0,e1,e2,e3,e4,e5,e6,e7,he⟩:=Xmy (Xda s i)
   have He:=Qh he
   rw [he] at hB
   clear he
   have d0:wr.cell? ⟨B,0,none⟩=some (.int .u32 e0):=(cell_of_row wr B 0 _ _ _ hB).trans rfl
   have d1:wr.cell? ⟨B,1,none⟩=some (.int .u32 e1):=(cell_of_row wr B 1 _ _ _ hB).trans rfl
   have d2:wr.cell? ⟨B,2,none⟩=some (.int .u32 e2):=(cell_of_row wr B 2 _ _ _ hB).trans rfl
   have d3:wr.cell? ⟨B,3,none⟩=some (.int .u32 e3):=(cell_of_row wr B 3 _ _ _ hB).trans rfl
   have d4:wr.cell? ⟨B,4,none⟩=some (.int .u32 e4):=(cell_of_row wr B 4 _ _ _ hB).trans rfl
   have d5:wr.cell? ⟨B,5,none⟩=some (.int .u32 e5):=(cell_of_row wr B 5 _ _ _ hB).trans rfl
   have d6:wr.cell? ⟨B,6,none⟩=some (.int .u32 e6):=(cell_of_row wr B 6 _ _ _ hB).trans rfl
   have d7:wr.cell? ⟨B,7,none⟩=some (.int .u32 e7):=(cell_of_row wr B 7 _ _ _ hB).trans rfl
   have z0:=frozen_of_row wr B 0 _ _ hB
   have z1:=frozen_of_row wr B 1 _ _ hB
   have z2:=frozen_of_row wr B 2 _ _ hB
   have z3:=frozen_of_row wr B 3 _ _ hB
   have z4:=frozen_of_row wr B 4 _ _ hB
   have z5:=frozen_of_row wr B 5 _ _ hB
   have z6:=frozen_of_row wr B 6 _ _ hB
   have z7:=frozen_of_row wr B 7 _ _ hB
   have HB:=Qh hB;clear hB
   go_wp2_with fail
   have hw1:IntKind.i64.wrap (64*(i:Int)+64)=64*(i:Int)+64:=IntWalk.i64_in _ (by omega)
   have hw2:IntKind.u64.wrap (64*(i:Int)+64)=64*(i:Int)+64:=IntWalk.u64_in _ (by omega)
   have hw3:(0:Int)≤64*(i:Int)+64:=by omega
   have hw4:64*(i:Int)+64≤(s.length:Int):=by omega
   have hw5:(0:Int)≤64*(i:Int):=by omega
   have hw6:64*(i:Int)≤64*(i:Int)+64:=by omega
   have hw7:(64*(i:Int)+64).toNat=64*i+64:=by omega
   have hw8:(64*(i:Int)).toNat=64*i:=by omega
   have hw9:64*i+64-64*i=64:=by omega
   have hpl:((s.drop (64*i)).take 64).length=64:=by simp;omega
   obtain ⟨c0,c1,c2,c3,c4,c5,c6,c7,hc⟩:=Xmy (Xbb [e0,e1,e2,e3,e4,e5,e6,e7] ((s.drop (64*i)).take 64) (64*(i:Int)+64) false)
   have Hc:=Qh hc
   clear hc
   go_region_law (go_simp;go_at_call 149;refine (Xf8 [e0,e1,e2,e3,e4,e5,e6,e7] rfl ((s.drop (64*i)).take 64) hpl (64*(i:Int)+64) false _).mono ?_;rintro e w' ⟨rfl,hb'⟩;rw [Hc.out,show row [c0,c1,c2,c3,c4,c5,c6,c7]= #[.int .u32 c0,.int .u32 c1,.int .u32 c2,.int .u32 c3,.int .u32 c4,.int .u32 c5,.int .u32 c6,.int .u32 c7] from rfl];have y0:w'.cell? ⟨B,0,none⟩=some (.int .u32 e0):=(hb'.cell hBs).trans d0;have y1:w'.cell? ⟨B,1,none⟩=some (.int .u32 e1):=(hb'.cell hBs).trans d1;have y2:w'.cell? ⟨B,2,none⟩=some (.int .u32 e2):=(hb'.cell hBs).trans d2;have y3:w'.cell? ⟨B,3,none⟩=some (.int .u32 e3):=(hb'.cell hBs).trans d3;have y4:w'.cell? ⟨B,4,none⟩=some (.int .u32 e4):=(hb'.cell hBs).trans d4;have y5:w'.cell? ⟨B,5,none⟩=some (.int .u32 e5):=(hb'.cell hBs).trans d5;have y6:w'.cell? ⟨B,6,none⟩=some (.int .u32 e6):=(hb'.cell hBs).trans d6;have y7:w'.cell? ⟨B,7,none⟩=some (.int .u32 e7):=(hb'.cell hBs).trans d7;have g0:w'.frozen? ⟨B,0,none⟩=false:=(hb'.frozen hBs).trans z0;have g1:w'.frozen? ⟨B,1,none⟩=false:=(hb'.frozen hBs).trans z1;have g2:w'.frozen? ⟨B,2,none⟩=false:=(hb'.frozen hBs).trans z2;have g3:w'.frozen? ⟨B,3,none⟩=false:=(hb'.frozen hBs).trans z3;have g4:w'.frozen? ⟨B,4,none⟩=false:=(hb'.frozen hBs).trans z4;have g5:w'.frozen? ⟨B,5,none⟩=false:=(hb'.frozen hBs).trans z5;have g6:w'.frozen? ⟨B,6,none⟩=false:=(hb'.frozen hBs).trans z6;have g7:w'.frozen? ⟨B,7,none⟩=false:=(hb'.frozen hBs).trans z7;have Hb':=Qh hb';clear hb')
   have hv0:=(Hb'.out.block B hBs).trans HB.out
   have hv:=heap_setCell (i:=7) c7 (heap_setCell (i:=6) c6 (heap_setCell (i:=5) c5 (heap_setCell (i:=4) c4 (heap_setCell (i:=3) c3 (heap_setCell (i:=2) c2 (heap_setCell (i:=1) c1 (heap_setCell (i:=0) c0 (hv0))))))))
   have hbw:Below w.heap.size w w':=hb.drew.trans (Hb'.out.mono hb.size)
   have hbw':=Below.setCell (Below.setCell (Below.setCell (Below.setCell (Below.setCell (Below.setCell (Below.setCell (Below.setCell (hbw) (p:=⟨B,0,none⟩) hBw (.int .u32 c0)) (p:=⟨B,1,none⟩) hBw (.int .u32 c1)) (p:=⟨B,2,none⟩) hBw (.int .u32 c2)) (p:=⟨B,3,none⟩) hBw (.int .u32 c3)) (p:=⟨B,4,none⟩) hBw (.int .u32 c4)) (p:=⟨B,5,none⟩) hBw (.int .u32 c5)) (p:=⟨B,6,none⟩) hBw (.int .u32 c6)) (p:=⟨B,7,none⟩) hBw (.int .u32 c7)
   have hsz':=Hb'.out.size
   go_wp2
   go_roundw
   case rel=>exact ⟨i+1,by omega,by go_num,hbw',(by simp [World.setCell];simp at hsz';omega),(by rw [hAt,He.out,show ((64*i+64:Nat):Int)=64*(i:Int)+64 by omega,Hc.out];exact hv)⟩
   case measure=>simp [intOf];omega
  ·have hie:i=L:=by omega
   have hle:s.length≤64*i+64:=by omega
   have hge:64*i≤s.length:=by omega
   have hw1:IntKind.i64.wrap (64-((s.length:Int)-64*(i:Int)))=64-((s.length:Int)-64*(i:Int)):=IntWalk.i64_in _ (by omega)
   have hw2:IntKind.i64.wrap ((s.length:Int)-64*(i:Int))=(s.length:Int)-64*(i:Int):=IntWalk.i64_in _ (by omega)
   have hw3:64*(i:Int)≤(s.length:Int):=by omega
   have hw4:(0:Int)≤64*(i:Int):=by omega
   have hw5:(64*(i:Int)).toNat=64*i:=by omega
   obtain ⟨c,hc64⟩:∃c:Nat,(64:Int)-((s.length:Int)-64*(i:Int))=c:=⟨64-(s.length-64*i),by omega⟩
   have hcn:c=64-(s.length-64*i):=by omega
   have HB:=Qh hB;clear hB
   have Hie:=Qh (show lastAt s=i by rw [HL.out,hie])
   have Hcn:=Qh hcn
   have hc1:c≤64:=by omega
   have hrl:(Lib.repeatL [0] (c:Int).toNat).length≤100:=by rw [Lib.repeatL_length];simp;omega
   have hrl2:(Lib.repeatL [0] c).length≤100:=by rw [Lib.repeatL_length];simp;omega
   clear hie hL' hcn hlt hi
   go_wp2_with fail
   refine wp_region_quiet_below (by kernel_rfl) (by kernel_rfl) ?_
   repeat (go_big_quiet_step ((exact Calls.regrown_of (Xpi [0] c _ (by omega) (by omega) (by simp;omega)))))
   refine wpQuiet_nil ?_
   intro w2 hwq
   have hb2:Below (wr).heap.size (wr) w2:=by
    obtain ⟨pq,rfl⟩:=hwq
    exact below_regrown _ _ _
   clear hwq
   obtain ⟨PB,hPB⟩:∃PB,List.take (s.length-64*i) (List.drop (64*i) s)++Lib.repeatL [0] c=PB:=⟨_,rfl⟩
   rw [hPB]
   have HPB:=Qh (show PB=s.drop (64*i)++List.replicate (64-(s.length-64*i)) 0 by rw [←hPB,Xg2,List.take_of_length_le (by simp),Hcn.out])
   have hPl:PB.length=64:=by rw [HPB.out];simp;omega
   clear hPB hrl hrl2
   have hl8:=Xda s i
   have Hsum:=Qh (show sumWords s=compressP (hAt s i) PB (s.length:Int) true by rw [sumWords,Hie.out,HPB.out])
   have hB2:=(hb2.block B hBs).trans HB.out
   have hsz2:B<w2.heap.size:=by have:=hb2.size;omega
   have hbw2:Below w.heap.size w w2:=hb.trans (hb2.mono hb.size)
   generalize hAt s i=F at hB2 hl8 Hsum
   have hi8:(Tryz.prog.info? 184).map (·.size)=some (row F).size:=by rw [row_size,hl8];kernel_rfl
   have hu64:IntKind.u64.wrap (s.length:Int)=(s.length:Int):=IntWalk.u64_in _ (by omega)
   clear hb2 HB
   go_wp2_with (refine wpList_load_row rfl 184 _ rfl B rfl 184 (row F) (0,0) _ hB2 Tryz.underlying184 rfl hi8 ?_)
   refine (Xf8 F hl8 PB hPl (s.length:Int) true _).mono ?_
   rintro e w3 ⟨rfl,hb3⟩
   rw [←Hsum.out]
   have hl8':(sumWords s).length=8:=Xbb ..
   obtain ⟨G,hG⟩:∃G,sumWords s=G:=⟨_,rfl⟩
   have HG:=Qh hG
   rw [hG] at hl8' ⊢
   clear hG
   have hB3:=(hb3.block B hsz2).trans hB2
   have hsz3:B<w3.heap.size:=by have:=hb3.size;omega
   have hbw3:Below w.heap.size w w3:=hbw2.trans (hb3.mono hbw2.size)
   have hi8':(Tryz.prog.info? 184).map (·.size)=some (row G).size:=by rw [row_size,hl8'];kernel_rfl
   have hz8:(row F).size=(row G).size:=by rw [row_size,row_size,hl8,hl8']
   have ho8:(row G).all (·.oneCell')=true:=by simp [row,Value.oneCell']
   clear hb3 Hsum
   go_upto_region 10 with (refine wpList_store_row rfl 184 _ _ rfl B (row G) rfl rfl 184 (row F) hB3 hi8' hz8 ho8 ?_)
   have hB4:(w3.setRow B (row G)).heap[B]? =some (.cells (row G) 184 (0,0)):=setRow_heap _ _ _ _ _ _ hB3
   have hbw4:Below w.heap.size w (w3.setRow B (row G)):=below_setRow hbw3 hBw _
   have hsz4:B<(w3.setRow B (row G)).heap.size:=by simpa using hsz3
   generalize w3.setRow B (row G)=w4 at hB4 hbw4 hsz4
   clear hB3 hbw3 hsz3
   obtain ⟨ZZ,hZZ,hmk⟩:=Xua
   have hB5:(w4.alloc (.cells ZZ 5)).heap[B]? =some (.cells (row G) 184 (0,0)):=(Below.heap_alloc _ _ _ hsz4).trans hB4
   go_wp2_with (refine wpList_load_row rfl 184 _ rfl B rfl 184 (row G) (0,0) _ hB5 Tryz.underlying184 rfl hi8' ?_)
   have hB0:w.heap.size≤w4.heap.size:=hbw4.size
   have Hst:=Qh (show OwnS tB 5 (fun _=>none) (w4.alloc (.cells ZZ 5)) w4.heap.size (.slice (some ⟨w4.heap.size,0,none⟩) 0 32) [] from ⟨[],World.ownsRow_made w4 ZZ 32 (Qn _) (by decide) (by rw [hZZ];rfl),LiesL.nil _ _⟩)
   have Hbl:=Qh (hbw4.alloc hB0 (.cells ZZ 5))
   obtain ⟨B0,hB0e⟩:∃B0,w4.heap.size=B0:=⟨_,rfl⟩
   have hsz5:B0≤(w4.alloc (.cells ZZ 5)).heap.size:=by simp;omega
   rw [hB0e] at hB0 Hst ⊢
   clear hB4 hB5 hbw4 hsz4 hmk
   go_loopw [7,58] (fun s7 s58 wr=> ∃k:Nat,k≤8∧s58= .int .i64 k∧OwnS tB 5 (fun _=>none) wr B0 s7 (outTo G k)∧Below w.heap.size w wr∧B0≤wr.heap.size) (fun _ k _=>8-(intOf k).toNat)
   case atStart=>exact ⟨0,Nat.zero_le _,rfl,Hst.out,Hbl.out,hsz5⟩
   case round=>
    clear Hst Hbl hsz5
    obtain ⟨k,hk,rfl,hown,hbk,hszk⟩:=hrel
    by_cases hltk:k<8
    ·have hix:=Xdf (P:=Tryz.prog) Tryz.underlying184 Tryz.underlying25 rfl (by kernel_rfl) k hltk (Xa8 (l:=G) (i:=k) (by omega))
     have Hsc:=Qh (Xph G k (by omega))
     have hol:=Xf3 G k
     generalize G.getD k 0=x at hix Hsc
     have hwl:(wordBytes x).length=4:=rfl
     have hly:=Xh6 (fun _=>none) x
     go_wp2_with (at_builtin;refine Xh4 (w0:=wr) Xgs rfl _ _ rfl _ _ _ rfl hown (wordBytes x) [.int .u8 (x%256),.int .u8 (x / 256%256),.int .u8 (x / 65536%256),.int .u8 (x / 16777216%256)] _ rfl hly (by rw [hwl];omega) (by rw [hwl];omega) (by rw [hwl];omega) hszk ?_)
     intro v5 w5 hown5 hg5
     have hb5:=Below.own hbk hg5 hown hB0 hszk
     have hsz5:=hg5.size
     go_wp2
     go_roundw
     case rel=>exact ⟨k+1,by omega,by go_num,by rw [Hsc.out];exact hown5,hb5,by omega⟩
     case measure=>simp [intOf];omega
    ·have hke:k=8:=by omega
     have Hret:=Qh (show (outTo G k).map (fun x=>UInt8.ofNat x.toNat)=sumP s by rw [sumP,HG.out,hke])
     have hpos:0<(outTo G k).length:=by rw [hke];match G,hl8' with|_::_,_=>simp [outTo,wordBytes]
     have hcv:=Xjv (P:=Tryz.prog) Tryz.underlying72 Tryz.underlying5 Tryz.underlying9 _ hown hpos
     rw [Hret.out] at hcv
     clear hown hpos hke
     go_wp2
     go_ret
     exact ⟨rfl,hbk⟩
end Go.Proofs.YtjdednajelommaaGreatDoor
namespace Go.Proofs.YtjdednajelommaaGreatDoor
structure Ses where
 num:Int
 date:Int
 prev:Bytes
 ents:List Ent
 stream:Bytes
 sl:Bytes
def headE (e:Ent):Bytes:=netP (nameP e.kind)++netP e.path++attP e.attrs++netP e.target
def xtP (l:List Xt):Bytes:=l.flatMap fun x=>numP x.s++numP x.o++numP x.n
def encE (e:Ent):Bytes:=netP (headE e)++numP e.size++netP e.digest++numP e.exts.length++xtP e.exts
def sesHead (s:Ses):Bytes:=numP s.num++numP s.date++netP s.prev++(numP s.stream.length++netP (sumP s.stream)++numP s.ents.length)
def sesText (s:Ses):Bytes:=sesHead s++s.ents.flatMap encE
def fldErr (s:Ses):Int:=if s.num<1∨255<s.num∨s.date<0∨1000000000<s.date then 2 else if s.prev≠ []∧s.prev.length≠32 then 1 else 0
def entsErr:List Ent→Int
 | []=>0
 |e::l=>if entErr e≠0 then entErr e else entsErr l
def sesErr (s:Ses):Int:=if fldErr s≠0 then fldErr s else if 14680064<s.stream.length∨400<s.ents.length then 6 else if entsErr s.ents≠0 then entsErr s.ents else if 2000<s.sl.length then 6 else 0
def dirDig (s:Ses):Bytes × Int:=if sesErr s≠0 then ([],sesErr s) else (sumP (sesText s),0)
structure Stt where
 tree:List Ent
 holds:List Ho
def askP (s:Stt) (e:Ent) (d:Int):Int:=if 3<e.kind∨(getT s.tree e.path).isSome=true then alwP s.holds e.kind e.path d else 0
def stpP (s:Stt) (e:Ent) (d:Int):Stt × Int:=
 if (applyT s.tree e).2≠0 then (s,(applyT s.tree e).2)
 else if askP s e d≠0 then (s,askP s e d)
 else if (appH s.holds e d).2≠0 then (s,(appH s.holds e d).2)
 else (⟨(applyT s.tree e).1,(appH s.holds e d).1⟩,0)
def nilS:Stt:=⟨[],[]⟩
def runS (s:Stt) (d:Int) (l:List Ent):Stt:=l.foldl (fun s e=>(stpP s e d).1) s
def aftS (s:Stt) (l:List Ses):Stt:=l.foldl (fun s x=>runS s x.date x.ents) s
structure SOk (n:Nat) (s:Stt):Prop where
 tree:OkT s.tree
 holds:HOk s.holds
 tlen:s.tree.length≤n
 hlen:s.holds.length≤n
theorem Xva:SOk 0 nilS:=⟨(Xw6 []).1 rfl,Xre,Qn _,Qn _⟩
theorem SOk.mono {n m:Nat} {s:Stt} (h:SOk n s) (hm:n≤m):SOk m s:=⟨h.tree,h.holds,Nat.le_trans h.tlen hm,Nat.le_trans h.hlen hm⟩
theorem Xex {t:List Ent} {e:Ent} (h:(applyT t e).2=0):applyT t e=((applyT t e).1,0):=Prod.ext rfl h
theorem Xsy {n:Nat} {s:Stt} (h:SOk n s) (e:Ent) (d:Int):SOk (n+1) (stpP s e d).1:=by
 unfold stpP
 split
 ·exact h.mono (by omega)
 ·rename_i h1
  split
  ·exact h.mono (by omega)
  ·split
   ·exact h.mono (by omega)
   ·have ha:=Xex (t:=s.tree) (e:=e) (by omega)
    obtain ⟨hpre,hx⟩:=applyT_iff.1 ha
    have hl:=Xwh s.tree e
    have hh:appH s.holds e d=((appH s.holds e d).1,(appH s.holds e d).2):=rfl
    refine ⟨Xsg h.tree ha,Xxe h.holds hpre.ent hh,?_,?_⟩
    ·rw [hx];have:=h.tlen;show (opT s.tree e).length≤_;omega
    ·have:=Xui hh
     have:=h.hlen
     show (appH s.holds e d).1.length≤_
     omega
def xtIn (l:List Ses) (x:Xt):Bool:=x.s==0 || (decide (x.s≤l.length)&&decide (x.o+x.n≤((l[(x.s-1).toNat]?).map fun s=>(s.stream.length:Int)).getD 0))
def storedP (l:List Ses) (e:Ent):Bool:=e.exts.all (xtIn l)
def entsH (l:List Ses) (d:Int):Stt→List Ent→Stt × Int
 |s,[]=>(s,0)
 |s,e::es=>if (stpP s e d).2≠0 then ((stpP s e d).1,(stpP s e d).2) else if storedP l e=false then ((stpP s e d).1,2) else entsH l d (stpP s e d).1 es
def chkFromH (l:List Ses):Nat→Stt→Bytes→Int→List Ses→Int
 |_,_,_,_,[]=>0
 |i,s,prev,date,x::xs=>
  if (dirDig x).2≠0 then (dirDig x).2
  else if x.num≠i+1∨x.date<date then 14
  else if x.prev≠prev then 20
  else if (entsH (l.take (i+1)) x.date s x.ents).2≠0 then (entsH (l.take (i+1)) x.date s x.ents).2
  else chkFromH l (i+1) (entsH (l.take (i+1)) x.date s x.ents).1 (dirDig x).1 x.date xs
def chkH (l:List Ses):Int:=chkFromH l 0 nilS [] 0 l
structure Ver where
 s:Int
 d:Int
 e:Ent
def verHit (s:Stt) (p:Bytes) (e:Ent):Bool:=(decide (e.kind≤3)&&e.path==p) || (e.kind==4&&(getT s.tree p).isSome&&under p e.path)
def verS (num d:Int) (p:Bytes):Stt→List Ent→List Ver
 |_,[]=> []
 |s,e::es=>(if verHit s p e then [⟨num,d,e⟩] else [])++verS num d p (stpP s e d).1 es
def verFrom (p:Bytes):Stt→List Ses→List Ver
 |_,[]=> []
 |s,x::xs=>verS x.num x.date p s x.ents++verFrom p (runS s x.date x.ents) xs
def verP (l:List Ses) (p:Bytes):List Ver:=verFrom p nilS l
def asOf (d:Int):List Ses→Nat
 | []=>0
 |x::l=>if d<x.date then 0 else asOf d l+1
end Go.Proofs.YtjdednajelommaaGreatDoor
namespace Go.Proofs.YtjdednajelommaaGreatDoor
structure EncOk (x:Ent):Prop where
 k1:1≤x.kind
 k6:x.kind≤6
 natt:x.attrs.length≤16
 att:∀a∈x.attrs,a.k.length≤32∧a.v.length≤64
 target:x.target.length≤200
 s0:0≤x.size
 s1:x.size≤65536
 digest:x.digest.length≤32
 path:x.path.length≤200
 xts:∀y∈x.exts,0≤y.s∧y.s≤255∧0≤y.o∧y.o≤2147483647∧1≤y.n∧y.n≤65536
theorem Xgn {f:Bool}:∀ {l:List Xt},xtsErr f l=0→ ∀y∈l,xtBad y=false
 | [],_,y,hy=>by cases hy
 |x::l,h,y,hy=>by
  unfold xtsErr at h
  split at h
  ·omega
  split at h
  ·omega
  rename_i k
  rcases List.mem_cons.1 hy with rfl|hy
  ·simpa using k
  ·exact Xgn h y hy
theorem Xsp {x:Xt} (h:xtBad x=false):0≤x.s∧x.s≤255∧0≤x.o∧x.o≤2147483647∧1≤x.n∧x.n≤65536:=by
 unfold xtBad at h
 simp only [Bool.or_eq_false_iff,decide_eq_false_iff_not] at h
 omega
theorem Xeg {x:Ent} (h:entErr x=0):EncOk x:=by
 have hk:=Xb5 h
 have hpp:=(Xcb hk.2.2.1).1
 unfold entErr at h
 rw [if_neg (by omega)] at h
 by_cases h1:pathErr x.path≠0
 ·rw [if_pos h1] at h;exact absurd h h1
 rw [if_neg h1] at h
 split at h
 ·omega
 by_cases h2:chk x.attrs≠0
 ·rw [if_pos h2] at h;exact absurd h h2
 rw [if_neg h2] at h
 split at h
 ·omega
 rename_i h3
 split at h
 ·omega
 rename_i h4
 split at h
 ·omega
 rename_i h5
 by_cases h6:xtsErr (x.kind==1) x.exts≠0
 ·rw [if_pos h6] at h;exact absurd h h6
 have hc:=Xw4 (l:=x.attrs) (by omega)
 refine ⟨by omega,by omega,hc.1,hc.2,?_,by omega,by omega,?_,by omega,fun y hy=>Xsp (Xgn (f:=x.kind==1) (Classical.byContradiction h6) y hy)⟩
 ·have ht:targetOk x=true:=by
   cases hh:targetOk x with
   |true=>rfl
   |false=>exact absurd (.inr hh) h3
  unfold targetOk at ht
  split at ht
  ·simp at ht;omega
  ·split at ht
   ·have:=Xis ht;omega
   ·have:x.target= []:=by simpa using ht
    rw [this];simp
 ·by_cases hk1:x.kind=1
  ·have:¬(x.kind=1∧x.digest.length≠32):=fun q=>h5 (.inl q)
   omega
  ·have:¬(x.kind≠1∧x.digest≠ []):=fun q=>h5 (.inr q)
   have hd:x.digest= []:=Classical.byContradiction fun q=>this ⟨hk1,q⟩
   rw [hd];simp
theorem Xbk {n:Int} (h0:0≤n) (h1:n≤140737488355200):(numP n).length≤17:=by
 obtain ⟨m,rfl⟩:=Int.eq_ofNat_of_zero_le h0
 exact Xbq m (by omega)
theorem Xhl {x:Ent} (h:EncOk x):(headE x).length≤2700:=by
 have h1:=Xud h.natt h.att
 have h2:=Xfd x.kind
 have h3:=Xay (nameP x.kind) (by omega)
 have h4:=Xay x.path (by have:=h.path;omega)
 have h5:=Xay x.target (by have:=h.target;omega)
 have h6:=h.path
 have h7:=h.target
 unfold headE
 simp only [List.length_append]
 omega
def encF (e:Ent):Bytes:=netP (headE e)++numP e.size++netP e.digest++numP e.exts.length
def encK (e:Ent) (k:Nat):Bytes:=encF e++xtP (e.exts.take k)
theorem Xli {e:Ent} {k:Nat} (hk:k<e.exts.length) {x:Xt} (hx:e.exts[k]=x):encK e (k+1)=encK e k++(numP x.s++numP x.o++numP x.n):=by
 rw [encK,encK,List.take_succ_eq_append_getElem hk,hx,xtP,List.flatMap_append,←List.append_assoc]
 simp [xtP]
theorem Xjr (e:Ent) {k:Nat} (h:e.exts.length≤k):encK e k=encE e:=by rw [encK,List.take_of_length_le h];rfl
theorem Xlh (e:Ent):encK e 0=encF e:=by rw [encK,List.take_zero];simp [xtP]
theorem Xtx {x:Ent} (h:EncOk x) (hx:x.exts.length≤1000):(encF x).length≤2900:=by
 have h1:=Xhl h
 have h2:=Xay (headE x) (by omega)
 have h3:=Xbk h.s0 (by have:=h.s1;omega)
 have h4:=Xay x.digest (by have:=h.digest;omega)
 have h5:=Xbq x.exts.length (by omega)
 have h6:=h.digest
 unfold encF
 simp only [List.length_append]
 omega
theorem Xpy:∀ {l:List Xt},(∀y∈l,0≤y.s∧y.s≤255∧0≤y.o∧y.o≤2147483647∧1≤y.n∧y.n≤65536)→(xtP l).length≤51*l.length
 | [],_=>by simp [xtP]
 |y::l,h=>by
  have h1:=h y (List.mem_cons_self ..)
  have h2:=Xpy fun z hz=>h z (List.mem_cons_of_mem _ hz)
  have h3:=Xbk (n:=y.s) (by omega) (by omega)
  have h4:=Xbk (n:=y.o) (by omega) (by omega)
  have h5:=Xbk (n:=y.n) (by omega) (by omega)
  unfold xtP at*
  simp only [List.flatMap_cons,List.length_append,List.length_cons]
  omega
theorem Xjq {x:Ent} (h:EncOk x) (hx:x.exts.length≤1000) (k:Nat):(encK x k).length≤54000:=by
 have h1:=Xtx h hx
 have h2:=Xpy (l:=x.exts.take k) fun y hy=>h.xts y (List.mem_of_mem_take hy)
 have h3:(x.exts.take k).length≤x.exts.length:=by simp;omega
 unfold encK
 rw [List.length_append]
 omega
theorem Xjs {x:Ent} (h:EncOk x) (hx:x.exts.length≤1000):(encE x).length≤54000:=by
 rw [←Xjr x (Qn _)]
 exact Xjq h hx _
end Go.Proofs.YtjdednajelommaaGreatDoor
namespace Go.Proofs.YtjdednajelommaaGreatDoor
open Go.RowKit
section
variable {P:Program} {ops:Array Oper} {md:Region.Mode} {Q:Exit→Act→World→Prop}
def leftN (s:Array Bool):Nat:=s.toList.countP (!·)
theorem Xit:∀(l:List Bool) (i:Nat),l[i]? =some false→(l.set i true).countP (!·)+1=l.countP (!·)
 | [],_,h=>absurd h (by simp)
 |b::l,0,h=>by
  simp at h
  subst h
  simp
 |b::l,i+1,h=>by
  have:=Xit l i (by simpa using h)
  simp only [List.set_cons_succ,List.countP_cons]
  omega
theorem Xio {s:Array Bool} {i:Nat} (h:s.getD i true=false):s.toList[i]? =some false:=by
 rw [Array.getElem?_toList]
 rw [Array.getD_eq_getD_getElem?] at h
 cases hs:s[i]? with
 |none=>rw [hs] at h;simp at h
 |some b=>rw [hs] at h;simpa using h
theorem Xkz {s:Array Bool} {i:Nat} (h:s.getD i true=false):leftN (s.setIfInBounds i true)+1=leftN s:=by
 unfold leftN
 rw [Array.toList_setIfInBounds]
 exact Xit _ _ (Xio h)
theorem Xrb {s:Array Bool} {i:Nat} (h:s.getD i true=false):0<leftN s:=by have:=Xkz h;omega
theorem Xp3 {J:Array Bool→Act→World→Prop} (hstep:∀s a w i,J s a w→i∈Region.ready md ops s→wpOp P ops Q i (fun a' w'=>J (s.setIfInBounds i true) a' w') a w)
 (hend:∀s a w,J s a w→Region.ready md ops s= []→Q .normal a w):∀(f:Nat) (s:Array Bool) (a:Act) (w:World),leftN s≤f→J s a w→wpAny P md ops Q f s a w:=by
 intro f
 induction f with
 |zero=>
  intro s a w hf hJ
  have hr:Region.ready md ops s= []:=by
   cases h:Region.ready md ops s with
   |nil=>rfl
   |cons j l=>
    have:=Xrb (mem_ready.1 (show j∈Region.ready md ops s by rw [h];exact List.mem_cons_self ..)).1
    omega
  exact ⟨hr,hend s a w hJ hr⟩
 |succ f ih=>
  intro s a w hf hJ
  refine ⟨hend s a w hJ,fun i hi=>wpOp_mono (fun a' w' h=>ih _ _ _ ?_ h) (hstep s a w i hJ hi)⟩
  have:=Xkz (mem_ready.1 hi).1
  omega
theorem Xm0 (n:Nat):leftN (Array.replicate n false)=n:=by
 simp [leftN,List.countP_replicate]
theorem Xi0 {id:Nat} {a:Act} {w:World} (J:Array Bool→Act→World→Prop) (hm:P.follows .mixedOrders=true) (h0:J (Array.replicate ops.size false) a { w with drawn:=w.drawn+1 })
 (hstep:∀s a w i,J s a w→i∈Region.ready .any ops s→wpOp P ops Q i (fun a' w'=>J (s.setIfInBounds i true) a' w') a w)
 (hend:∀s a w,J s a w→Region.ready .any ops s= []→Q .normal a w):(Code.region id ops true).wp P Q a w:=
 wp_region_any hm (Xp3 hstep hend _ _ _ _ (by rw [Xm0];exact Qn _) h0)
def fillA:List (Option Tmp × Value)→Nat→Array Bool→Act→Act
 | [],_,_,a=>a
 |(d,v)::l,k,s,a=>fillA l (k+1) s (if s.getD k false then a.put d v else a)
theorem Xqy (a:Act) {d e:Option Tmp} (u v:Value) (h:∀t,d=some t→e≠some t):(a.put d u).put e v=(a.put e v).put d u:=by
 cases d with
 |none=>rfl
 |some d=>
  cases e with
  |none=>rfl
  |some e=>
   have hne:d≠e:=fun h'=>h d rfl (by rw [h'])
   simp only [Act.put]
   rw [Array.setIfInBounds_comm _ _ hne]
def ApartF (l:List (Option Tmp × Value)):Prop:=l.Pairwise fun p q=> ∀t,p.1=some t→q.1≠some t
theorem Xjo:∀(l:List (Option Tmp × Value)) (k:Nat) (s:Array Bool) (a:Act) (d:Option Tmp) (v:Value),(∀p∈l,∀t,d=some t→p.1≠some t)→fillA l k s (a.put d v)=(fillA l k s a).put d v
 | [],_,_,_,_,_,_=>rfl
 |(e,u)::l,k,s,a,d,v,h=>by
  rw [fillA,fillA]
  split
  ·rw [Xqy a v u (h (e,u) (List.mem_cons_self ..)),Xjo l _ _ _ _ _ fun p hp=>h p (List.mem_cons_of_mem _ hp)]
  ·rw [Xjo l _ _ _ _ _ fun p hp=>h p (List.mem_cons_of_mem _ hp)]
theorem Xiq:∀(l:List (Option Tmp × Value)) (k:Nat) (s:Array Bool) (a:Act) (i:Nat),i<k→fillA l k (s.setIfInBounds i true) a=fillA l k s a
 | [],_,_,_,_,_=>rfl
 |(e,u)::l,k,s,a,i,h=>by
  rw [fillA,fillA,getD_set_ne false (by omega),Xiq l (k+1) s _ i (by omega)]
theorem Xn8:∀(l:List (Option Tmp × Value)) (k i:Nat) (s:Array Bool) (a:Act) (d:Option Tmp) (v:Value),ApartF l→l[i]? =some (d,v)→s.getD (k+i) true=false→(fillA l k s a).put d v=fillA l k (s.setIfInBounds (k+i) true) a
 | [],_,_,_,_,_,_,_,h,_=>absurd h (by simp)
 |(e,u)::l,k,0,s,a,d,v,hp,h,hs=>by
  simp at h
  obtain ⟨rfl,rfl⟩:=h
  have hf:s.getD k false=false:=by
   rw [Nat.add_zero] at hs
   rw [Array.getD_eq_getD_getElem?] at hs ⊢
   cases hk:s[k]? with
   |none=>rw [hk] at hs;simp at hs
   |some b=>rw [hk] at hs;simpa using hs
  have ht:(s.setIfInBounds k true).getD k false=true:=by
   have hlt:k<s.size:=by
    rw [Nat.add_zero] at hs
    have:=Xio hs
    have:=(List.getElem?_eq_some_iff.1 this).1
    simpa using this
   simp [Array.getD_eq_getD_getElem?,hlt]
  simp only [Nat.add_zero]
  rw [fillA,fillA,ht,hf]
  simp only [Bool.false_eq_true,if_false,if_true]
  rw [Xiq l (k+1) s _ k (by omega),Xjo]
  exact fun p hm t=>(List.pairwise_cons.1 hp).1 p hm t
 |(e,u)::l,k,i+1,s,a,d,v,hp,h,hs=>by
  rw [fillA,fillA,getD_set_ne false (by omega),show k+(i+1)=k+1+i by omega]
  exact Xn8 l (k+1) i s _ d v (List.pairwise_cons.1 hp).2 (by simpa using h) (by rw [←hs];congr 1;omega)
theorem Xg6 (a:Act) {d:Option Tmp} {t:Tmp} (v:Value) (h:d≠some t):(a.put d v).eval (.tmp t)=a.eval (.tmp t):=
 Act.eval_put fun d' hd e=>h (by rw [hd];injection e with e;rw [e])
theorem Xnv (a:Act) (d:Option Tmp) (v:Value):(a.put d v).tmps.size=a.tmps.size:=by cases d<;>simp [Act.put]
theorem Xcu:∀(l:List (Option Tmp × Value)) (k:Nat) (s:Array Bool) (a:Act) (t:Tmp),(∀p∈l,p.1≠some t)→(fillA l k s a).eval (.tmp t)=a.eval (.tmp t)
 | [],_,_,_,_,_=>rfl
 |(e,u)::l,k,s,a,t,h=>by
  rw [fillA,Xcu l _ _ _ _ fun p hp=>h p (List.mem_cons_of_mem _ hp)]
  split
  ·exact Xg6 a u (h (e,u) (List.mem_cons_self ..))
  ·rfl
theorem Xlf:∀(l:List (Option Tmp × Value)) (k i:Nat) (s:Array Bool) (a:Act) (t:Tmp) (v:Value),ApartF l→l[i]? =some (some t,v)→s.getD (k+i) false=true→t<a.tmps.size→(fillA l k s a).eval (.tmp t)=v
 | [],_,_,_,_,_,_,_,h,_,_=>absurd h (by simp)
 |(e,u)::l,k,0,s,a,t,v,hp,h,hs,ht=>by
  simp at h
  obtain ⟨rfl,rfl⟩:=h
  rw [Nat.add_zero] at hs
  rw [fillA,hs,if_pos rfl,Xcu l _ _ _ _ fun p hm e=>(List.pairwise_cons.1 hp).1 p hm t rfl e]
  simp [Act.put,Act.eval,Array.getD_eq_getD_getElem?,ht]
 |(e,u)::l,k,i+1,s,a,t,v,hp,h,hs,ht=>by
  rw [fillA]
  refine Xlf l (k+1) i s _ t v (List.pairwise_cons.1 hp).2 (by simpa using h) (by rw [←hs];congr 1;omega) ?_
  split
  ·rw [Xnv];exact ht
  ·exact ht
theorem Xef:∀(l m:List (Option Tmp × Value)) (k:Nat) (s:Array Bool) (a:Act),l.length=m.length→(∀i,s.getD (k+i) false=true→l[i]? =m[i]?)→fillA l k s a=fillA m k s a
 | [],[],_,_,_,_,_=>rfl
 | [],_::_,_,_,_,h,_=>absurd h (by simp)
 |_::_,[],_,_,_,h,_=>absurd h (by simp)
 |(e,u)::l,(f,v)::m,k,s,a,hl,h=>by
  rw [fillA,fillA]
  have hrest:∀a',fillA l (k+1) s a'=fillA m (k+1) s a':=fun a'=>Xef l m (k+1) s a' (by simpa using hl) fun i hi=>by
   have:=h (i+1) (by rw [←hi];congr 1;omega)
   simpa using this
  cases hk:s.getD k false
  ·simp only [Bool.false_eq_true,if_false];exact hrest a
  ·have:=h 0 hk
   simp at this
   obtain ⟨rfl,rfl⟩:=this
   simp only [if_true];exact hrest _
theorem Xrr (l:List (Option Tmp × Value)) (a:Act):∀(k n:Nat),fillA l k (Array.replicate n false) a=a:=by
 induction l generalizing a with
 |nil=>intro k n;rfl
 |cons p l ih=>
  intro k n
  obtain ⟨d,v⟩:=p
  have:(Array.replicate n false).getD k false=false:=by
   rw [Array.getD_eq_getD_getElem?]
   rw [Array.getElem?_replicate]
   split<;>rfl
  rw [fillA,this]
  simp only [Bool.false_eq_true,if_false]
  exact ih a _ _
end
section
variable {P:Program} {ops:Array Oper} {Q:Exit→Act→World→Prop}
def backB (ops:Array Oper):Bool:=(List.range ops.size).all fun i=>((ops[i]?).map fun o=>o.after.all fun e=>decide (e.on<i)).getD true
def fillAll:List (Option Tmp × Value)→Act→Act
 | [],a=>a
 |(d,v)::l,a=>fillAll l (a.put d v)
theorem Xa1:∀(l:List (Option Tmp × Value)) (k:Nat) (s:Array Bool) (a:Act),(∀i,i<l.length→s.getD (k+i) false=true)→fillA l k s a=fillAll l a
 | [],_,_,_,_=>rfl
 |(d,v)::l,k,s,a,h=>by
  have h0:=h 0 (by simp)
  rw [Nat.add_zero] at h0
  rw [fillA,h0,if_pos rfl,fillAll]
  exact Xa1 l (k+1) s _ fun i hi=>by
   have:=h (i+1) (by simp;omega)
   rw [←this];congr 1;omega
end
section
variable {P:Program} {α:Type} {T:Ty α} {I:IH}
theorem Xgz {t ty e:TypeId} {i:TypeInfo} (ht:P.underlying t=some (.slice e)) (hi:P.info? e=some i) (w:World) (b ao:Option Addr) (n cap c:Nat) (hn:n≤cap):
 (Builtin.append_ #[t,t] ty #[.slice b n cap,.slice ao 0 c]).run P w= .ok (.slice b n cap) w:=by
 cases b<;>cases ao<;>simp [Builtin.append_,run_underlying ht,sizeOf,typeInfo,hi,Builtin.lenOf,Builtin.firstCells,loadCells,loadCellsFrom,hn,storeCells]
def SrcS (T:Ty α) (I:IH) (w:World) (v:Value) (l:List α):Prop:=
 ∃ao c cs,v= .slice ao l.length c∧LiesL T I cs l∧(0<l.length→ ∃ad,ao=some ad∧ ∀j u,cs[j]? =some u→w.cell? (ad.add j)=some u)
theorem SrcS.of_rd {w:World} {v:Value} {l:List α} (h:RdS T I v l) (hw:Ok I w) (hs:0<T.size):SrcS T I w v l:=by
 obtain ⟨ao,cap,xs,hv,_,_,hl,hc⟩:=h.cells hw hs
 refine ⟨ao,cap,xs,hv,hl,fun h0=> ?_⟩
 obtain ⟨b,off,arr,rfl,_,_,hcs⟩:=hc h0
 exact ⟨_,rfl,fun j u hu=>by rw [Addr.add_lit];exact hcs j u hu⟩
theorem SrcS.of_one {w:World} {x:α} {cs:List Value} {g:Nat} (hx:T.rd I cs x) (hc:∀j u,cs[j]? =some u→w.cell? ⟨g,j,none⟩=some u):SrcS T I w (.slice (some ⟨g,0,none⟩) 1 1) [x]:=
 ⟨_,_,cs,rfl,LiesL.one hx,fun _=>⟨_,rfl,fun j u hu=>by rw [Addr.add_lit,Nat.zero_add];exact hc j u hu⟩⟩
end
theorem Xad {L:List (Option Tmp × Value)} {s:Array Bool} {a a':Act} {i:Nat} {d:Option Tmp} {v:Value} (hp:ApartF L) (ha:a'=fillA L 0 s a) (hi:L[i]? =some (d,v)) (hun:s.getD i true=false):a'.put d v=fillA L 0 (s.setIfInBounds i true) a:=by
 have h:=Xn8 L 0 i s a d v hp hi (by rw [Nat.zero_add];exact hun)
 rw [ha,h,Nat.zero_add]
theorem Xaq {L:List (Option Tmp × Value)} {s:Array Bool} {a a':Act} {i:Nat} {t:Tmp} {v:Value} (hp:ApartF L) (ha:a'=fillA L 0 s a) (hi:L[i]? =some (some t,v)) (hs:s.getD i false=true) (ht:t<a.tmps.size):a'.tmps[t]?.getD undef=v:=by
 have h:=Xlf L 0 i s a t v hp hi (by rw [Nat.zero_add];exact hs) ht
 rw [←ha] at h
 simpa [Act.eval] using h
theorem Xbh {L:List (Option Tmp × Value)} {s:Array Bool} {a a':Act} {t:Tmp} (ha:a'=fillA L 0 s a) (h:∀p∈L,p.1≠some t):a'.tmps[t]?.getD undef=a.tmps[t]?.getD undef:=by
 have h:=Xcu L 0 s a t h
 rw [←ha] at h
 simpa [Act.eval] using h
theorem Xao {s:Array Bool} {i:Nat} (h:s.getD i true=false):s.getD i false=false:=by
 rw [Array.getD_eq_getD_getElem?] at h ⊢
 cases hs:s[i]? with
 |none=>rfl
 |some b=>rw [hs] at h;simpa using h
theorem Xcy {s:Array Bool} {i:Nat} (h:s.getD i true=false):i<s.size:=by
 rcases Nat.lt_or_ge i s.size with h'|h'
 ·exact h'
 ·rw [Array.getD_eq_getD_getElem?,Array.getElem?_eq_none h'] at h;simp at h
theorem Xa9 (n i:Nat):(Array.replicate n false).getD i false=false:=by
 rw [Array.getD_eq_getD_getElem?,Array.getElem?_replicate]
 split<;>rfl
theorem Xba {s:Array Bool} {i:Nat} (h:i<s.size):(s.setIfInBounds i true).getD i false=true:=by
 rw [Array.getD_eq_getD_getElem?,Array.getElem?_setIfInBounds_self_of_lt h];rfl
theorem Xna {L M:List (Option Tmp × Value)} {s:Array Bool} {a:Act} (i:Nat) (hl:L.length=M.length) (h:∀j,j≠i→L[j]? =M[j]?) (hun:s.getD i true=false):fillA L 0 s a=fillA M 0 s a:=
 Xef _ _ _ _ _ hl fun j hj=>by
  rw [Nat.zero_add] at hj
  exact h j fun e=>by rw [e,Xao hun] at hj;cases hj
def backB2 (ops:Array Oper):Bool:=(List.range ops.size).all fun i=>((ops[i]?).map fun o=>o.after.all fun e=> !(Region.binds .any e) || decide (e.on<i)).getD true
theorem Xxg {ops:Array Oper} {s:Array Bool} (hb:backB2 ops=true) (hr:Region.ready .any ops s= []) (hsz:s.size=ops.size):∀i,i<ops.size→s.getD i false=true:=by
 intro i
 induction i using Nat.strongRecOn with
 |_ i ih=>
  intro hi
  cases hs:s.getD i false with
  |true=>rfl
  |false=>
   exfalso
   have hs':s.getD i true=false:=by
    rw [Array.getD_eq_getD_getElem?] at hs ⊢
    have hlt:i<s.size:=by omega
    rw [Array.getElem?_eq_getElem hlt] at hs ⊢
    simpa using hs
   have:i∈Region.ready .any ops s:=mem_ready.2 ⟨hs',ops[i],Array.getElem?_eq_getElem hi,fun e he hbd=> ?_⟩
   ·rw [hr] at this;exact absurd this (by simp)
   ·have h:=List.all_eq_true.1 hb i (List.mem_range.2 hi)
    rw [Array.getElem?_eq_getElem hi] at h
    simp only [Option.map_some,Option.getD_some] at h
    obtain ⟨j,hj,rfl⟩:=Array.getElem_of_mem he
    have h2:=Array.all_eq_true.1 h j hj
    rw [hbd] at h2
    have h3:ops[i].after[j].on<i:=by simpa using h2
    exact ih _ h3 (by omega)
theorem Xgq {P:Program} {ops:Array Oper} {Q:Exit→Act→World→Prop} {X:Type} {id:Nat} {a:Act} {w:World} (L:X→List (Option Tmp × Value)) (C:X→Array Bool→World→Prop) (hm:P.follows .mixedOrders=true) (hb:backB2 ops=true) (h0:∃x,C x (Array.replicate ops.size false) { w with drawn:=w.drawn+1 })
 (hstep:∀x s a' w' i,s.size=ops.size→a'=fillA (L x) 0 s a→C x s w'→i∈Region.ready .any ops s→wpOp P ops Q i (fun a'' w''=> ∃y,a''=fillA (L y) 0 (s.setIfInBounds i true) a∧C y (s.setIfInBounds i true) w'') a' w')
 (hend:∀x s a' w',(∀i,i<ops.size→s.getD i false=true)→a'=fillA (L x) 0 s a→C x s w'→Q .normal a' w'):(Code.region id ops true).wp P Q a w:=by
 refine Xi0 (fun s a' w'=>s.size=ops.size∧ ∃x,a'=fillA (L x) 0 s a∧C x s w') hm ?_ ?_ ?_
 ·obtain ⟨x,hx⟩:=h0
  exact ⟨by simp,x,(Xrr _ _ _ _).symm,hx⟩
 ·rintro s a' w' i ⟨hsz,x,ha,hx⟩ hi
  exact wpOp_mono (fun a'' w'' ⟨y,h1,h2⟩=>⟨by simpa using hsz,y,h1,h2⟩) (hstep x s a' w' i hsz ha hx hi)
 ·rintro s a' w' ⟨hsz,x,ha,hx⟩ hr
  exact hend x s a' w' (Xxg hb hr hsz) ha hx
theorem Xg0 {P:Program} {α:Type} {T:Ty α} {I:IH} {ts te ty:TypeId} {bytes:Nat} (hE:ElemOk P ts te T bytes) {w:World} {B:Nat} {v:Value} {l:List α} (hown:OwnS T te I w B v l) {vx:Value} {ys:List α} (hy:SrcS T I w vx ys)
 (hbig:(l.length+ys.length)*bytes≤140737488355328) (hl:l.length+ys.length≤9223372036854775807) (hB:B≤w.heap.size):
 ∃v' w',(Builtin.append_ #[ts,ts] ty #[v,vx]).run P w= .ok v' w'∧OwnS T te I w' B v' (l++ys)∧w.grownBy w' v.ownBlock∧ ∀g,v'.ownBlock=some g→v.ownBlock=some g∨w.heap.size≤g:=by
 obtain ⟨i,z,h1,h2,h3,h4,h5,h6,h7⟩:=hE
 obtain ⟨ao,c,cs,rfl,k1,k2⟩:=hy
 obtain ⟨xs,k3,k4⟩:=hown
 rcases Nat.eq_zero_or_pos ys.length with h0|h0
 ·have:ys= []:=List.eq_nil_of_length_eq_zero h0
  subst this
  have hv:∃b n cap,v= .slice b n cap∧n≤cap:=by
   rcases k3.2 with ⟨h8,_⟩|⟨g,cap,cur,h8,_,_,h9,_⟩
   ·exact ⟨_,_,_,h8,Qn _⟩
   ·exact ⟨_,_,_,h8,h9⟩
  obtain ⟨b,n,cap,rfl,hn⟩:=hv
  refine ⟨_,w,Xgz h1 h2 w b ao n cap c hn,⟨xs,by rw [List.append_nil];exact k3,by rw [List.append_nil];exact k4⟩,⟨rfl,rfl,rfl,Qn _,fun _ _ _=>rfl⟩,fun g hg=> .inl hg⟩
 ·obtain ⟨ad,rfl,hcs⟩:=k2 h0
  obtain ⟨v',w',hr,r1,r2,_,r4⟩:=run_append_own_at (P:=P) w B ts ty te i z T.size bytes h1 h2 h3 h4 h5 h6 h7 v l.length xs k3 ad ys.length c cs k1.1 hcs k1.oneCell (by unfold maxLen;omega) hbig hB
  refine ⟨v',w',hr,⟨xs++cs,by rw [List.length_append];exact r1,k4.append k1⟩,r2,fun g hg=> ?_⟩
  rcases r4 with r4|r4
  ·exact .inl (r4▸hg)
  ·rw [r4] at hg
   exact .inr (by cases hg;exact Qn _)
theorem Xbu {P:Program} {α:Type} {T:Ty α} {I:IH} {ts te:TypeId} {bytes:Nat} (hE:ElemOk P ts te T bytes) {w:World} {o:Oper} {a:Act} {K:Act→World→Prop} {Q:Exit→Act→World→Prop} (s x:Operand)
 (ho:o.op= .call { callee:= .builtin .append,args:= #[s,x],argTypes:= #[ts,ts] }) {B:Nat} {v:Value} {l:List α} (hs:a.eval s=v) (hown:OwnS T te I w B v l) {vx:Value} {ys:List α} (hx:a.eval x=vx) (hy:SrcS T I w vx ys)
 (hbig:(l.length+ys.length)*bytes≤140737488355328) (hl:l.length+ys.length≤9223372036854775807) (hB:B≤w.heap.size)
 (h:∀v' w',OwnS T te I w' B v' (l++ys)→w.grownBy w' v.ownBlock→(∀g,v'.ownBlock=some g→v.ownBlock=some g∨w.heap.size≤g)→K (a.put o.dst v') w'):Oper.wp P o a w K Q:=by
 obtain ⟨v',w',hr,h1,h2,h3⟩:=Xg0 (ty:=o.type) hE hown hy hbig hl hB
 unfold Oper.wp execOp
 simp only [ho,resolve,invoke,builtin,Sem.run_bind,Sem.run_pure,Result.andThen_ok,List.map_toArray,List.map_cons,List.map_nil,hs,hx,hr]
 exact h v' w' h1 h2 h3
structure A2X where
 e:Nat
 b:Nat
 v1:Value
 v2:Value
structure A2C {α:Type} (T:Ty α) (E:TypeId) (I:IH) (w3:World) (l:List α) (y:α) (row:Array Value) (i0 i2 i4 i5:Nat) (x:A2X) (s:Array Bool) (w:World):Prop where
 bel:Below w3.heap.size w3 w
 p0:s.getD i0 false=true→s.getD i2 false=false→OwnS T E I w w3.heap.size (.slice (some ⟨x.e,0,none⟩) 0 0) []
 p2:s.getD i2 false=true→s.getD i5 false=false→OwnS T E I w w3.heap.size x.v1 l
 p4:s.getD i4 false=true→s.getD i5 false=false→w.heap[x.b]? =some (.cells row E (0,0))
 p5:s.getD i5 false=true→OwnS T E I w w3.heap.size x.v2 (l++ [y])
 n0:s.getD i0 false=true→s.getD i2 false=false→s.getD i4 false=true→x.e≠x.b
 n2:s.getD i2 false=true→s.getD i4 false=true→s.getD i5 false=false→x.v1.ownBlock≠some x.b
 o2:s.getD i2 false=true→s.getD i0 false=true
 o5:s.getD i5 false=true→s.getD i2 false=true∧s.getD i4 false=true
section
variable {α:Type} {T:Ty α} {E:TypeId} {I:IH} {w3 w w':World} {l:List α} {y:α} {row:Array Value} {i0 i2 i4 i5:Nat} {x:A2X} {s:Array Bool}
theorem Xbn {v:Value} {l:List α} {B g:Nat} (h:OwnS T E I w B v l) (hg:v.ownBlock=some g):B≤g∧g<w.heap.size:=by
 obtain ⟨xs,h1,_⟩:=h
 exact h1.lt g hg
end
structure QbC (W:World) (last j1 j2:Nat) (cs1 cs2:List (Nat × Value)) (fin:World→Prop) (x:Nat × Nat) (s:Array Bool) (w:World):Prop where
 bel:s.getD last false=false→Below W.heap.size W w
 f1:s.getD j1 false=true→s.getD last false=false→ ∀p∈cs1,w.cell? ⟨x.1,p.1,none⟩=some p.2
 f2:s.getD j2 false=true→s.getD last false=false→ ∀p∈cs2,w.cell? ⟨x.2,p.1,none⟩=some p.2
 fin:s.getD last false=true→fin w
section
variable {W w w':World} {last j1 j2:Nat} {cs1 cs2:List (Nat × Value)} {fin:World→Prop} {x:Nat × Nat} {s:Array Bool}
theorem QbC.start (n:Nat) (x:Nat × Nat):QbC W last j1 j2 cs1 cs2 fin x (Array.replicate n false) { W with drawn:=W.drawn+1 }:=
 ⟨fun _=>(Qb _ _).drew,fun h=>(by rw [Xa9] at h;cases h),fun h=>(by rw [Xa9] at h;cases h),fun h=>(by rw [Xa9] at h;cases h)⟩
theorem QbC.step (h:QbC W last j1 j2 cs1 cs2 fin x s w) (hl:s.getD last false=false) (hb:Below w.heap.size w w') {i:Nat} (h1:i≠j1) (h2:i≠j2) (h3:i≠last):QbC W last j1 j2 cs1 cs2 fin x (s.setIfInBounds i true) w':=by
 refine ⟨fun _=>(h.bel hl).trans (hb.mono (h.bel hl).size),?_,?_,?_⟩
 ·rw [getD_set_ne false h1]
  exact fun a _ p hp=>Xaa hb (h.f1 a hl p hp)
 ·rw [getD_set_ne false h2]
  exact fun a _ p hp=>Xaa hb (h.f2 a hl p hp)
 ·rw [getD_set_ne false h3,hl]
  intro q
  cases q
theorem QbC.at1 (h:QbC W last j1 j2 cs1 cs2 fin x s w) (hl:s.getD last false=false) (hb:Below w.heap.size w w') (h2:j1≠j2) (h3:j1≠last) {n:Nat} (hc:∀p∈cs1,w'.cell? ⟨n,p.1,none⟩=some p.2):QbC W last j1 j2 cs1 cs2 fin (n,x.2) (s.setIfInBounds j1 true) w':=by
 refine ⟨fun _=>(h.bel hl).trans (hb.mono (h.bel hl).size),fun _ _=>hc,?_,?_⟩
 ·rw [getD_set_ne false h2]
  exact fun a _ p hp=>Xaa hb (h.f2 a hl p hp)
 ·rw [getD_set_ne false h3,hl]
  intro q
  cases q
theorem QbC.at2 (h:QbC W last j1 j2 cs1 cs2 fin x s w) (hl:s.getD last false=false) (hb:Below w.heap.size w w') (h1:j2≠j1) (h3:j2≠last) {n:Nat} (hc:∀p∈cs2,w'.cell? ⟨n,p.1,none⟩=some p.2):QbC W last j1 j2 cs1 cs2 fin (x.1,n) (s.setIfInBounds j2 true) w':=by
 refine ⟨fun _=>(h.bel hl).trans (hb.mono (h.bel hl).size),?_,fun _ _=>hc,?_⟩
 ·rw [getD_set_ne false h1]
  exact fun a _ p hp=>Xaa hb (h.f1 a hl p hp)
 ·rw [getD_set_ne false h3,hl]
  intro q
  cases q
theorem QbC.end' (hun:s.getD last true=false) (hf:fin w'):QbC W last j1 j2 cs1 cs2 fin x (s.setIfInBounds last true) w':=by
 have e:=Xba (Xcy hun)
 exact ⟨fun q=>(by rw [e] at q;cases q),fun _ q=>(by rw [e] at q;cases q),fun _ q=>(by rw [e] at q;cases q),fun _=>hf⟩
end
def Clo (ops:Array Oper) (s:Array Bool):Prop:= ∀i o,ops[i]? =some o→s.getD i false=true→ ∀e∈o.after,Region.binds .any e=true→s.getD e.on false=true
def pathB (ops:Array Oper):List Nat→Bool
 |i::j::r=>(match ops[i]? with|some o=>o.after.any fun e=>Region.binds .any e&&e.on==j|none=>false)&&pathB ops (j::r)
 |_=>true
theorem Xjw {ops:Array Oper} {s:Array Bool} (h:Clo ops s):∀(p:List Nat) (k i:Nat),pathB ops (k::p)=true→(k::p).getLast? =some i→s.getD k false=true→s.getD i false=true
 | [],k,i,_,hl,hk=>by simp at hl;exact hl▸hk
 |j::r,k,i,hp,hl,hk=>by
  unfold pathB at hp
  rw [Bool.and_eq_true] at hp
  obtain ⟨h1,h2⟩:=hp
  cases ho:ops[k]? with
  |none=>rw [ho] at h1;simp at h1
  |some o=>
   rw [ho] at h1
   simp only [Array.any_eq_true,Bool.and_eq_true,beq_iff_eq] at h1
   obtain ⟨n,hn,h3,h4⟩:=h1
   exact Xjw h r j i h2 (by simpa using hl) (h4▸h k o ho hk _ (Array.getElem_mem hn) h3)
theorem Xae {ops:Array Oper} {s:Array Bool} (h:Clo ops s) (p:List Nat) {k i:Nat} (hp:pathB ops (k::p)=true) (hl:(k::p).getLast? =some i) (hun:s.getD i true=false):s.getD k false=false:=by
 cases hk:s.getD k false with
 |false=>rfl
 |true=>have:=Xjw h p k i hp hl hk;rw [Xao hun] at this;cases this
theorem Xw1 {ops:Array Oper} {s:Array Bool} (h:Clo ops s) {i:Nat} (hi:i∈Region.ready .any ops s):Clo ops (s.setIfInBounds i true):=by
 obtain ⟨hun,oi,hoi,hall⟩:=mem_ready.1 hi
 have up:∀j,s.getD j false=true→(s.setIfInBounds i true).getD j false=true:=fun j hj=>by
  by_cases e:i=j
  ·subst e;exact Xba (Xcy hun)
  ·rw [getD_set_ne false e];exact hj
 intro j o ho hj e he hb
 by_cases c:i=j
 ·subst c
  rw [hoi] at ho
  cases ho
  exact up _ (hall e he hb)
 ·rw [getD_set_ne false c] at hj
  exact up _ (h j o ho hj e he hb)
theorem Xtt {L M:List (Option Tmp × Value)} {s:Array Bool} {a:Act} (i k:Nat) (hl:L.length=M.length) (h:∀j,j≠i→j≠k→L[j]? =M[j]?) (hun:s.getD i true=false) (hk:s.getD k false=false):fillA L 0 s a=fillA M 0 s a:=
 Xef _ _ _ _ _ hl fun j hj=>by
  rw [Nat.zero_add] at hj
  exact h j (fun e=>by rw [e,Xao hun] at hj;cases hj) (fun e=>by rw [e,hk] at hj;cases hj)
theorem Xah {P:Program} {ops:Array Oper} {Q:Exit→Act→World→Prop} {X:Type} {id:Nat} {a:Act} {w:World} (L:X→List (Option Tmp × Value)) (C:X→Array Bool→World→Prop) (hm:P.follows .mixedOrders=true) (hb:backB2 ops=true) (h0:∃x,C x (Array.replicate ops.size false) { w with drawn:=w.drawn+1 })
 (hstep:∀x s a' w' i,s.size=ops.size→Clo ops s→a'=fillA (L x) 0 s a→C x s w'→i∈Region.ready .any ops s→wpOp P ops Q i (fun a'' w''=> ∃y,a''=fillA (L y) 0 (s.setIfInBounds i true) a∧C y (s.setIfInBounds i true) w'') a' w')
 (hend:∀x s a' w',(∀i,i<ops.size→s.getD i false=true)→a'=fillA (L x) 0 s a→C x s w'→Q .normal a' w'):(Code.region id ops true).wp P Q a w:=by
 refine Xgq (X:=X) L (fun x s w'=>Clo ops s∧C x s w') hm hb ?_ ?_ ?_
 ·obtain ⟨x,hx⟩:=h0
  exact ⟨x,fun i _ _ q=>(by rw [Xa9] at q;cases q),hx⟩
 ·rintro x s a' w' i hsz ha ⟨hcl,hC⟩ hi
  exact wpOp_mono (fun a'' w'' ⟨y,h1,h2⟩=>⟨y,h1,Xw1 hcl hi,h2⟩) (hstep x s a' w' i hsz hcl ha hC hi)
 ·rintro x s a' w' hup ha ⟨_,hC⟩
  exact hend x s a' w' hup ha hC
theorem Xfs (n:Int) (h0:0≤n) (h1:n≤140737488355200) (w:World):
 Calls Tryz.prog 145 #[.int .i64 n] w fun e w'=>e= .returned (S (numP n))∧Below w.heap.size w w':=by
 obtain ⟨m,rfl⟩:=Int.eq_ofNat_of_zero_le h0
 exact Xb3 m (by omega) w
theorem Xft (I:IH) (hI:Glob I) (n:Int) (h0:0≤n) (h1:n≤140737488355200) (w:World) (hw:Ok I w):
 Calls Tryz.prog 141 #[.int .i64 n] w fun e w'=>e= .returned (S (numP n))∧Below w.heap.size w w':=by
 obtain ⟨m,rfl⟩:=Int.eq_ofNat_of_zero_le h0
 exact Xc5 I hI m (by omega) w hw
theorem Xx5 {W:World} {b:Nat} {p q:Bytes} (h0:W.cell? ⟨b,0,none⟩=some (S p)) (h1:W.cell? ⟨b,1,none⟩=some (S q)):StrsAt W b 0 [p,q]:=fun j x hx=>by
 match j with
 |0=>cases hx;exact h0
 |1=>cases hx;exact h1
 |_+2=>simp at hx
theorem Xjy {T e:TypeId} {B b:Nat} {bs:List Value} {w:World} (h:Lib.IsBuilder T e B b bs w) (o:Obj):Lib.IsBuilder T e B b bs (w.alloc o):=Xa3 h ((Qb _ _).alloc (Qn _) _)
set_option maxRecDepth 100000 in
theorem Xty (k:Int) (h1:1≤k) (h2:k≤6) (w:World):
 Calls Tryz.prog 245 #[] w fun e w'=>e= .returned (.slice (some ⟨w.heap.size,0,none⟩) 6 6)∧w'.cell? ⟨w.heap.size,k.toNat-1,none⟩=some (S (nameP k))∧Below w.heap.size w w'∧w.heap.size<w'.heap.size:=by
 go_enter Tryz.func245,Tryz.ntmps245
 go_wp2
 go_ret
 refine ⟨rfl,?_,(Qb _ _).alloc (Qn _) _,by simp⟩
 have:k=1∨k=2∨k=3∨k=4∨k=5∨k=6:=by omega
 rcases this with rfl|rfl|rfl|rfl|rfl|rfl<;>simp [nameP]
theorem EntB.far {w w':World} {n B:Nat} {e:Ent} {va vx:Value} (h:EntB w n e va vx) (hb:Below B w w') (hn:n<B):EntB w' n e va vx:=
 ⟨(hb.cell hn).trans h.c0,(hb.cell hn).trans h.c1,(hb.cell hn).trans h.c2,(hb.cell hn).trans h.c3,(hb.cell hn).trans h.c4,(hb.cell hn).trans h.c5,(hb.cell hn).trans h.c6⟩
abbrev hdL (n:Nat) (e:Ent) (N:Bytes) (x:Nat × Nat):List (Option Tmp × Value):=
 [(some 13,.slice (some ⟨x.1,0,none⟩) 6 6),(some 14,.pointer (some ⟨n,0,none⟩)),(some 15,.int .i64 e.kind),(some 16,.int .i64 (e.kind-1)),(some 17,.pointer (some ⟨x.1,e.kind.toNat-1,none⟩)),(some 18,S (nameP e.kind)),
  (some 19,.pointer (some ⟨n,1,none⟩)),(some 20,S e.path),(some 21,.slice (some ⟨x.2,0,none⟩) 2 2),(some 22,S N),(some 23,.tuple #[.int .i64 (N.length:Int),.nilIface])]
theorem Xa0 {n:Nat} {e:Ent} {N:Bytes} {x:Nat × Nat}:ApartF (hdL n e N x):=by
 unfold ApartF
 simp
set_option maxRecDepth 100000 in
set_option maxHeartbeats 4000000 in
theorem Xwn (I:IH) (hI:Glob I) (e:Ent) (va vx:Value) (hva:RdS tAt I va e.attrs) (hvx:RdS tXt I vx e.exts) (hwf:e.Wf) (hpl:e.path.length≤4294967280) (htl:e.target.length≤4294967280) (hc:EncOk e) (he:entErr e=0) (w:World) (hw:Ok I w):
 Calls Tryz.prog 199 #[entV e va vx] w fun r w'=>r= .returned (.tuple #[S (headE e),.int .i64 0])∧Below w.heap.size w w':=by
 have Hck:=Qh (fun w hw=>Xgj I hI e va vx hva hvx hwf hpl htl w hw)
 obtain ⟨aa,ca,rfl,_,_,_⟩:=id hva
 obtain ⟨ax,cx,rfl,_,_,_⟩:=id hvx
 have k1:=hc.k1
 have k6:=hc.k6
 have hp200:=hc.path
 have ht200:=hc.target
 have hna:=hc.natt
 have Hat:=Qh hc.att
 have Hc:=Qh hc
 rw [he] at Hck
 have i0:IntKind.i64.wrap (e.kind-1)=e.kind-1:=IntWalk.i64_in _ (by omega)
 have i1:0≤e.kind-1:=by omega
 have i2:e.kind-1<6:=by omega
 clear he hc
 go_enter Tryz.func199,Tryz.ntmps199
 go_wp2_with fail
 refine (Hck.out _ (hw.alloc _)).mono ?_
 rintro e1 w1 ⟨rfl,hb1⟩
 have HB1:=Qh (entB (e:=e) rfl hb1)
 have hok1:Ok I w1:=(hw.alloc _).below (Qn _) hb1
 have hb1':=((Qb w.heap.size w).alloc (Qn _) (.cells #[.int .i64 e.kind,S e.path,.slice aa e.attrs.length ca,S e.target,.int .i64 e.size,S e.digest,.slice ax e.exts.length cx] 68)).trans (hb1.mono (by simp))
 have hbd1:Lib.IsBuilder 181 5 w1.heap.size w1.heap.size (Lib.byteCells []) (w1.alloc (.cells #[.pointer none,.slice none 0 0] 181)):=Lib.fresh_isBuilder _ _ w1
 have hsz1:w.heap.size<w1.heap.size:=by have:=hb1.size;simp at this;omega
 go_wp2_with fail
 obtain ⟨c0,c1,c2,c3,c4,c5,c6⟩:=EntB.past HB1.out (.cells #[.pointer none,.slice none 0 0] 181)
 have hnl:=Xay (nameP e.kind) (by have:=Xfd e.kind;omega)
 have hnn:=Xfd e.kind
 have hpn:=Xay e.path (by omega)
 have hns:netsP [nameP e.kind,e.path]=netP (nameP e.kind)++netP e.path:=by simp [netsP]
 have hsl:(netsP [nameP e.kind,e.path]).length≤300:=by rw [hns,List.length_append];omega
 have Hst:=Qh (fun b w hv hw=>Xha I hI b 0 2 2 [nameP e.kind,e.path] rfl (Qn _) (by decide) w hv (by omega) hw)
 obtain ⟨N,hN⟩:∃N,netsP [nameP e.kind,e.path]=N:=⟨_,rfl⟩
 rw [hN] at Hst hsl
 rw [hns] at hN
 have HN:=Qh hN
 clear hns hN
 obtain ⟨W5,hW5⟩:∃W5,w1.alloc (.cells #[.pointer none,.slice none 0 0] 181)=W5:=⟨_,rfl⟩
 have hbW:Below w1.heap.size w1 W5:=by rw [←hW5];exact (Qb _ _).alloc (Qn _) _
 have hokW:Ok I W5:=by rw [←hW5];exact hok1.alloc _
 have hszW:w1.heap.size<W5.heap.size:=by rw [←hW5];simp
 change Code.wp _ _ _ _ (w1.alloc (.cells #[.pointer none,.slice none 0 0] 181))
 rw [hW5]
 rw [hW5] at hbd1 c0 c1
 have hkn:(e.kind-1).toNat=e.kind.toNat-1:=by omega
 refine Xah (X:=Nat × Nat) (hdL w.heap.size e N) (QbC W5 10 0 8 [(e.kind.toNat-1,S (nameP e.kind))] [(0,S (nameP e.kind)),(1,S e.path)] (fun w5=>Lib.IsBuilder 181 5 w1.heap.size w1.heap.size (Lib.byteCells N) w5∧w1.heap.size<w5.heap.size∧Below w1.heap.size w1 w5)) (by kernel_rfl) (by kernel_rfl) ?_ ?_ ?_
 ·exact ⟨(0,0),QbC.start _ _⟩
 ·rintro x s a' w' i hsz hcl ha hC hi
  obtain ⟨hun,oi,hoi,hall⟩:=mem_ready.1 hi
  rcases i with _|_|_|_|_|_|_|_|_|_|_|i
  rotate_left 11
  ·simp at hoi
  all_goals
   have hoj:=hoi
   simp at hoi
   subst hoi
   simp [Region.binds] at hall
  ·have hl:s.getD 10 false=false:=Xae hcl [9,8,5,4,0] (by kernel_rfl) (by rfl) hun
   have h4:s.getD 4 false=false:=Xae hcl [0] (by kernel_rfl) (by rfl) hun
   have ha:=ha.trans (Xtt (L:=hdL w.heap.size e N x) (M:=hdL w.heap.size e N (w'.heap.size,x.2)) 0 4 rfl (fun j h0 h4=>by
    rcases j with _|_|_|_|_|j<;>first|rfl|(exact absurd rfl h0)|(exact absurd rfl h4)|simp) hun h4)
   refine wpOp_step hoj (fun K' hK=> ?_)
   rw [if_pos (by rfl)]
   unfold Oper.wp
   simp [go_sem,Oper.upon]
   refine (Xty e.kind k1 k6 w').mono ?_
   rintro r2 w2 ⟨rfl,hc2,hb2,hsz2⟩
   exact hK _ _ ⟨(w'.heap.size,x.2),Xad (d:=some 13) (v:= .slice (some ⟨w'.heap.size,0,none⟩) 6 6) Xa0 ha rfl hun,hC.at1 hl hb2 (by decide) (by decide) (fun p hp=>by simp at hp;subst hp;exact hc2)⟩
  ·have e1:a'.tmps[1]?.getD undef= .pointer (some ⟨w.heap.size,0,none⟩):=Xbh ha (by simp)
   have hl:s.getD 10 false=false:=Xae hcl [9,8,5,4,3,2,1] (by kernel_rfl) (by rfl) hun
   refine wpOp_step hoj (fun K' hK=> ?_)
   rw [if_pos (by rfl)]
   unfold Oper.wp
   simp [go_sem,e1,Oper.upon]
   exact hK _ _ ⟨x,Xad (d:=some 14) (v:=(.pointer (some ⟨w.heap.size,0,none⟩))) Xa0 ha rfl hun,hC.step hl (Qb _ _) (by decide) (by decide) (by decide)⟩
  ·have e14:a'.tmps[14]?.getD undef= .pointer (some ⟨w.heap.size,0,none⟩):=Xaq (i:=1) Xa0 ha rfl (by simpa using hall) (by simp)
   have hl:s.getD 10 false=false:=Xae hcl [9,8,5,4,3,2] (by kernel_rfl) (by rfl) hun
   have c0':=Xaa (hC.bel hl) c0
   refine wpOp_step hoj (fun K' hK=> ?_)
   rw [if_pos (by rfl)]
   unfold Oper.wp
   simp [go_sem,e14,c0',Oper.upon]
   exact hK _ _ ⟨x,Xad (d:=some 15) (v:= .int .i64 e.kind) Xa0 ha rfl hun,hC.step hl (Qb _ _) (by decide) (by decide) (by decide)⟩
  ·have e15:a'.tmps[15]?.getD undef= .int .i64 e.kind:=Xaq (i:=2) Xa0 ha rfl (by simpa using hall) (by simp)
   have hl:s.getD 10 false=false:=Xae hcl [9,8,5,4,3] (by kernel_rfl) (by rfl) hun
   refine wpOp_step hoj (fun K' hK=> ?_)
   rw [if_pos (by rfl)]
   unfold Oper.wp
   simp [go_sem,e15,Oper.upon,i0]
   exact hK _ _ ⟨x,Xad (d:=some 16) (v:= .int .i64 (e.kind-1)) Xa0 ha rfl hun,hC.step hl (Qb _ _) (by decide) (by decide) (by decide)⟩
  ·have e13:a'.tmps[13]?.getD undef= .slice (some ⟨x.1,0,none⟩) 6 6:=Xaq (i:=0) Xa0 ha rfl (by simpa using hall.1) (by simp)
   have e16:a'.tmps[16]?.getD undef= .int .i64 (e.kind-1):=Xaq (i:=3) Xa0 ha rfl (by simpa using hall.2) (by simp)
   have hl:s.getD 10 false=false:=Xae hcl [9,8,5,4] (by kernel_rfl) (by rfl) hun
   refine wpOp_step hoj (fun K' hK=> ?_)
   rw [if_pos (by rfl)]
   unfold Oper.wp
   simp [go_sem,e13,e16,i2,hkn,k1,Oper.upon]
   exact hK _ _ ⟨x,Xad (d:=some 17) (v:= .pointer (some ⟨x.1,e.kind.toNat-1,none⟩)) Xa0 ha rfl hun,hC.step hl (Qb _ _) (by decide) (by decide) (by decide)⟩
  ·have e17:a'.tmps[17]?.getD undef= .pointer (some ⟨x.1,e.kind.toNat-1,none⟩):=Xaq (i:=4) Xa0 ha rfl (by simpa using hall) (by simp)
   have hl:s.getD 10 false=false:=Xae hcl [9,8,5] (by kernel_rfl) (by rfl) hun
   have h0:s.getD 0 false=true:=Xjw hcl [0] 4 0 (by kernel_rfl) (by rfl) (by simpa using hall)
   have hc:=hC.f1 h0 hl _ (List.mem_singleton.2 rfl)
   refine wpOp_step hoj (fun K' hK=> ?_)
   rw [if_pos (by rfl)]
   unfold Oper.wp
   simp [go_sem,e17,hc,Oper.upon]
   exact hK _ _ ⟨x,Xad (d:=some 18) (v:=S (nameP e.kind)) Xa0 ha rfl hun,hC.step hl (Qb _ _) (by decide) (by decide) (by decide)⟩
  ·have e1:a'.tmps[1]?.getD undef= .pointer (some ⟨w.heap.size,0,none⟩):=Xbh ha (by simp)
   have hl:s.getD 10 false=false:=Xae hcl [9,8,7,6] (by kernel_rfl) (by rfl) hun
   refine wpOp_step hoj (fun K' hK=> ?_)
   rw [if_pos (by rfl)]
   unfold Oper.wp
   simp [go_sem,e1,Oper.upon]
   exact hK _ _ ⟨x,Xad (d:=some 19) (v:=(.pointer (some ⟨w.heap.size,1,none⟩))) Xa0 ha rfl hun,hC.step hl (Qb _ _) (by decide) (by decide) (by decide)⟩
  ·have e19:a'.tmps[19]?.getD undef= .pointer (some ⟨w.heap.size,1,none⟩):=Xaq (i:=6) Xa0 ha rfl (by simpa using hall) (by simp)
   have hl:s.getD 10 false=false:=Xae hcl [9,8,7] (by kernel_rfl) (by rfl) hun
   have c1':=Xaa (hC.bel hl) c1
   refine wpOp_step hoj (fun K' hK=> ?_)
   rw [if_pos (by rfl)]
   unfold Oper.wp
   simp [go_sem,e19,c1',Oper.upon]
   exact hK _ _ ⟨x,Xad (d:=some 20) (v:=S e.path) Xa0 ha rfl hun,hC.step hl (Qb _ _) (by decide) (by decide) (by decide)⟩
  ·have e18:a'.tmps[18]?.getD undef=S (nameP e.kind):=Xaq (i:=5) Xa0 ha rfl (by simpa using hall.1) (by simp)
   have e20:a'.tmps[20]?.getD undef=S e.path:=Xaq (i:=7) Xa0 ha rfl (by first|simpa using hall.2|simpa using hall.2.1) (by simp)
   have hl:s.getD 10 false=false:=Xae hcl [9,8] (by kernel_rfl) (by rfl) hun
   have ha:=ha.trans (Xna (L:=hdL w.heap.size e N x) (M:=hdL w.heap.size e N (x.1,w'.heap.size)) 8 rfl (fun j hne=>by
    rcases j with _|_|_|_|_|_|_|_|_|j<;>first|rfl|(exact absurd rfl hne)|simp) hun)
   refine wpOp_step hoj (fun K' hK=> ?_)
   rw [if_pos (by rfl)]
   unfold Oper.wp
   simp [go_sem,e18,e20,Oper.upon]
   refine hK _ _ ⟨(x.1,w'.heap.size),Xad (d:=some 21) (v:= .slice (some ⟨w'.heap.size,0,none⟩) 2 2) Xa0 ha rfl hun,hC.at2 hl ((Qb _ _).alloc (Qn _) _) (by decide) (by decide) (fun p hp=> ?_)⟩
   have hst:=Xie w' [nameP e.kind,e.path] 9
   simp at hp
   rcases hp with rfl|rfl
   ·exact hst 0 _ rfl
   ·exact hst 1 _ rfl
  ·have e21:a'.tmps[21]?.getD undef= .slice (some ⟨x.2,0,none⟩) 2 2:=Xaq (i:=8) Xa0 ha rfl (by simpa using hall.1) (by simp)
   have hl:s.getD 10 false=false:=Xae hcl [9] (by kernel_rfl) (by rfl) hun
   have hf2:=hC.f2 (by simpa using hall.1) hl
   have hst:StrsAt w' x.2 0 [nameP e.kind,e.path]:=Xx5 (hf2 (0,_) (by simp)) (hf2 (1,_) (by simp))
   refine wpOp_step hoj (fun K' hK=> ?_)
   rw [if_pos (by rfl)]
   unfold Oper.wp
   simp [go_sem,e21,Oper.upon]
   refine (Hst.out x.2 w' hst (hokW.below (Qn _) (hC.bel hl))).mono ?_
   rintro r4 w4 ⟨rfl,hb4⟩
   exact hK _ _ ⟨x,Xad (d:=some 22) (v:=S N) Xa0 ha rfl hun,hC.step hl hb4 (by decide) (by decide) (by decide)⟩
  ·have e22:a'.tmps[22]?.getD undef=S N:=Xaq (i:=9) Xa0 ha rfl (by first|simpa using hall|simpa using hall.1|simpa using hall.2) (by simp)
   have e5:a'.tmps[5]?.getD undef= .pointer (some ⟨w1.heap.size,0,none⟩):=Xbh ha (by simp)
   have hl:s.getD 10 false=false:=Xao hun
   have hbx:=hC.bel hl
   refine wpOp_step hoj (fun K' hK=> ?_)
   rw [if_pos (by rfl)]
   unfold Oper.wp
   simp [go_sem,e22,e5,Oper.upon]
   refine (Tryz.Builder_WriteString w1.heap.size w1.heap.size _ _ _ (Xa3 hbd1 hbx) (by rw [ByteArray.size_mk',List.size_toArray];simp [Lib.byteCells];omega) (by have:=hbx.size;omega)).mono ?_
   rintro r5 w5 ⟨rfl,hbd5,hb5⟩
   refine hK _ _ ⟨x,Xad (d:=some 23) (v:= .tuple #[.int .i64 (N.length:Int),.nilIface]) Xa0 ha rfl hun,QbC.end' hun ⟨.inr ?_,hbd5.lt,(hbW.trans (hbx.mono (Nat.le_of_lt hszW))).trans hb5⟩⟩
   have:=hbd5
   rw [Lib.strCells_toArray,Lib.byteCells,List.map_nil,List.nil_append] at this
   exact this
 rintro x s a' w5 hup ha hC
 obtain ⟨hbd5,hsz5,hbA⟩:=hC.fin (hup 10 (by decide))
 rw [Xa1 _ _ _ _ (fun i hi=>by rw [Nat.zero_add];exact hup i (by simpa using hi))] at ha
 subst ha
 simp only [fillAll,Act.put]
 clear hC hup
 have hok1f:∀b,w1.heap.size≤b→I b=none:=fun b hb=>hok1.fresh hb
 have hok5:Ok I w5:=hok1.below (Qn _) hbA
 have Hbd5:=Qh hbd5
 have HB5:=Qh (HB1.out.thru (hbA.mono (Qn _)))
 have hb5':=hb1'.trans (hbA.mono hb1'.size)
 have hl0:=Xon hna Hat.out
 have Hl:=Qh hl0
 have hz:numP e.attrs.length=attK e.attrs 0:=by rw [attK,List.take_zero,List.flatMap_nil,List.append_nil]
 have Hnu:=Qh (fun w hw=>Xc5 I hI e.attrs.length (by omega) w hw)
 rw [hz] at Hnu
 have hl0':=hl0 0
 clear hbd1 hbd5 hb1 hb1' hbA HB1 c0 c1 c2 c3 c4 c5 c6 hok1 hz hl0 Hst i0 i1 i2 hnl hnn hpn hbW hokW hszW hkn hW5
 obtain ⟨c0,c1,c2,c3,c4,c5,c6⟩:=HB5.out
 go_wp2_with fail
 refine (Hnu.out _ hok5).mono ?_
 rintro e6 w6 ⟨rfl,hb6⟩
 have hbd6:=Xa3 Hbd5.out hb6
 have hok6:Ok I w6:=hok5.below (Qn _) hb6
 have HB6:=Qh (HB5.out.thru hb6)
 have hb6':=hb5'.trans (hb6.mono hb5'.size)
 have hsz6:=hb6.size
 clear hb6 hb5' hok5 HB5 c0 c1 c2 c3 c4 c5 c6 Hbd5
 go_wp2_with fail
 refine (Tryz.Builder_WriteString w1.heap.size w1.heap.size _ _ _ hbd6 (by rw [ByteArray.size_mk',List.size_toArray];simp [Lib.byteCells];omega) (by omega)).mono ?_
 rintro e7 w7 ⟨rfl,hbd7,hb7⟩
 have Hbd7:=Qh (show Lib.IsBuilder 181 5 w1.heap.size w1.heap.size (Lib.byteCells (N++attK e.attrs 0)) w7 from .inr (by
  have:=hbd7
  rw [Lib.strCells_toArray,Lib.byteCells,Lib.byteCells,←List.map_append] at this
  exact this))
 have hsz7:=hbd7.lt
 have hbB:Below w1.heap.size w6 w7:=hb7
 have hok7:Ok I w7:=hok6.of_block fun b c hb=>hbB.block b (Nat.lt_of_not_le fun h=>by rw [hok1f b h] at hb;cases hb)
 have HB7:=Qh (HB6.out.far hbB hsz1)
 have hb7':=hb6'.trans (hbB.mono (Nat.le_of_lt hsz1))
 clear hbd6 hbd7 hb7 hbB hb6' hok6 HB6 Hnu
 obtain ⟨c0,c1,c2,c3,c4,c5,c6⟩:=HB7.out
 have Hv:=Qh hva
 clear hva hvx
 go_wp2_with fail
 clear c0 c1 c2 c3 c4 c5 c6
 go_loopw [32] (fun s32 wr=> ∃k:Nat,k≤e.attrs.length∧s32= .int .i64 k∧Lib.IsBuilder 181 5 w1.heap.size w1.heap.size (Lib.byteCells (N++attK e.attrs k)) wr∧Ok I wr∧EntB wr w.heap.size e (.slice aa e.attrs.length ca) (.slice ax e.exts.length cx)∧Below w.heap.size w wr∧w1.heap.size<wr.heap.size) (fun i _=>e.attrs.length-(intOf i).toNat)
 case atStart=>exact ⟨0,Nat.zero_le _,rfl,Hbd7.out,hok7,HB7.out,hb7',hsz7⟩
 case round=>
  clear Hbd7 HB7 hb7' hok7 hsz7 hsz6 hsz5
  obtain ⟨k,hk,rfl,hbd,hwr,hBe,hb,hsz⟩:=hrel
  have Hbd:=Qh hbd
  have HBe:=Qh hBe
  clear hbd hBe
  have hal:=Hl.out k
  by_cases hlt:k<e.attrs.length
  ·obtain ⟨x,b,off,cap',hlx,hvv,c0,c1⟩:=atAt Hv.out hwr k hlt
   cases hvv
   have hax:=Hat.out x (by rw [←hlx];exact List.getElem_mem hlt)
   have Hst:=Qh (Xl2 hlt hlx)
   have hk1:=Xay x.k (by omega)
   have hk2:=Xay x.v (by omega)
   have hns:netsP [x.k,x.v]=netP x.k++netP x.v:=by simp [netsP]
   have Hs:=Qh (fun w hv hw=>Xha I hI (wr.heap.size+1) 0 2 2 [x.k,x.v] rfl (by simp) (by unfold maxLen;omega) w hv (by rw [hns];simp;omega) hw)
   have HS:=Qh (show StrsAt ((wr.alloc (.cells #[S x.k,S x.v] 89)).alloc (.cells #[S x.k,S x.v] 9)) (wr.heap.size+1) 0 [x.k,x.v] by
    have:=Xie (wr.alloc (.cells #[S x.k,S x.v] 89)) [x.k,x.v] 9
    rwa [show (wr.alloc (.cells #[S x.k,S x.v] 89)).heap.size=wr.heap.size+1 by simp] at this)
   rw [hns] at Hs
   clear hlx hns
   generalize netP x.k=p at Hst hk1 Hs
   generalize netP x.v=q at Hst hk2 Hs
   generalize attK e.attrs k=u at Hst hal Hbd
   go_wp2_with fail
   refine (Hs.out _ HS.out ((hwr.alloc _).alloc _)).mono ?_
   rintro e1 w2 ⟨rfl,hb1⟩
   have hbA:Below wr.heap.size wr w2:=(((Qb _ _).alloc (Qn _) _).alloc (by simp) _).trans (hb1.mono (by simp;omega))
   have hbd1:=Xa3 Hbd.out hbA
   have hok1:Ok I w2:=hwr.below (Qn _) hbA
   have HB1:=Qh (HBe.out.thru hbA)
   have hsz2:=hbA.size
   have hb1':=hb.trans (hbA.mono hb.size)
   clear hb1 hbA Hbd c0 c1 HS Hs
   go_wp2_with fail
   refine (Tryz.Builder_WriteString w1.heap.size w1.heap.size _ _ _ hbd1 (by rw [ByteArray.size_mk',List.size_toArray];simp [Lib.byteCells];omega) (by omega)).mono ?_
   rintro e2 w3 ⟨rfl,hbd2,hb2⟩
   have hsz3:=hbd2.lt
   have Hbd2:=Qh (show Lib.IsBuilder 181 5 w1.heap.size w1.heap.size (Lib.byteCells (N++attK e.attrs (k+1))) w3 from .inr (by
    have:=hbd2
    rw [Lib.strCells_toArray,Lib.byteCells,Lib.byteCells,←List.map_append,List.append_assoc,←Hst.out] at this
    exact this))
   have hbB:Below w1.heap.size w2 w3:=hb2
   have hok3:Ok I w3:=hok1.of_block fun b c hb=>hbB.block b (Nat.lt_of_not_le fun h=>by rw [hok1f b h] at hb;cases hb)
   have HB3:=Qh (HB1.out.far hbB hsz1)
   clear hbd1 hbd2 hok1 HB1 hb2
   go_wp2
   go_roundw
   case rel=>exact ⟨k+1,by omega,by go_num,Hbd2.out,hok3,HB3.out,hb1'.trans (hbB.mono (Nat.le_of_lt hsz1)),hsz3⟩
   case measure=>simp [intOf];omega
  ·have Hn:=Qh (Xoo e.attrs (k:=k) (by omega))
   rw [Hn.out] at Hbd hal
   have htn:=Xay e.target (by omega)
   have Hnt:=Qh (fun w hw=>Xcc I hI e.target (by omega) w hw)
   have Hh:=Qh (show N++attP e.attrs++netP e.target=headE e by rw [←HN.out];rfl)
   generalize netP e.target=q at htn Hnt Hh
   generalize attP e.attrs=u at Hbd hal Hh
   obtain ⟨c0,c1,c2,c3,c4,c5,c6⟩:=HBe.out
   go_wp2_with fail
   refine (Hnt.out _ hwr).mono ?_
   rintro e1 w2 ⟨rfl,hb1⟩
   have hbd1:=Xa3 Hbd.out hb1
   have hsz2:=hb1.size
   have hb1':=hb.trans (hb1.mono hb.size)
   clear hb1 Hbd c0 c1 c2 c3 c4 c5 c6 HBe
   go_wp2_with fail
   refine (Tryz.Builder_WriteString w1.heap.size w1.heap.size _ _ _ hbd1 (by rw [ByteArray.size_mk',List.size_toArray];simp [Lib.byteCells];omega) (by omega)).mono ?_
   rintro e2 w3 ⟨rfl,hbd2,hb2⟩
   have hsz3:=hbd2.lt
   have Hbd2:=Qh (show Lib.IsBuilder 181 5 w1.heap.size w1.heap.size (Lib.byteCells (headE e)) w3 from .inr (by
    have:=hbd2
    rw [Lib.strCells_toArray,Lib.byteCells,Lib.byteCells,←List.map_append,Hh.out] at this
    exact this))
   have hb2':=hb1'.trans (hb2.mono (Nat.le_of_lt hsz1))
   clear hbd1 hbd2 hb2
   go_wp2_with fail
   refine (Tryz.Builder_String_any w1.heap.size w1.heap.size _ _ Hbd2.out (Nat.le_of_lt hsz3)).mono ?_
   rintro e3 w4 ⟨rfl,hb4⟩
   go_wp2
   go_ret2
   exact ⟨rfl,hb2'.trans (hb4.mono (Nat.le_of_lt hsz1))⟩
theorem Xcm {b:Nat} {u v z:Bytes} {w:World} (h:Lib.BuilderAt 181 5 b b (.pointer (some ⟨b,0,none⟩)) (Lib.byteCells u++Lib.strCells ⟨v.toArray⟩) w) (e:u++v=z):Lib.IsBuilder 181 5 b b (Lib.byteCells z) w:= .inr (by
 rw [Lib.strCells_toArray,show Lib.byteCells u++Lib.byteCells v=Lib.byteCells z by rw [←e];simp [Lib.byteCells]] at h
 exact h)
set_option maxRecDepth 100000 in
set_option maxHeartbeats 4000000 in
theorem Xru (I:IH) (hI:Glob I) (e:Ent) (va vx:Value) (hva:RdS tAt I va e.attrs) (hvx:RdS tXt I vx e.exts) (hwf:e.Wf) (hpl:e.path.length≤4294967280) (htl:e.target.length≤4294967280) (hc:EncOk e) (he:entErr e=0) (hx:e.exts.length≤1000) (w:World) (hw:Ok I w):
 Calls Tryz.prog 143 #[entV e va vx] w fun r w'=>r= .returned (.tuple #[S (encE e),.int .i64 0])∧Below w.heap.size w w':=by
 have Hck:=Qh (fun w hw=>Xwn I hI e va vx hva hvx hwf hpl htl hc he w hw)
 obtain ⟨aa,ca,rfl,_,_,_⟩:=id hva
 obtain ⟨ax,cx,rfl,_,_,_⟩:=id hvx
 have Hv:=Qh hvx
 have hs0:=hc.s0
 have hs1:=hc.s1
 have hd32:=hc.digest
 have Hxs:=Qh hc.xts
 have Hl:=Qh (Xjq hc hx)
 have hl0:=Hl.out 0
 have hhl:=Xhl hc
 have Hz:=Qh (show netP (headE e)++numP e.size++netP e.digest++numP e.exts.length=encK e 0 from (Xlh e).symm)
 have hl1:=Xay (headE e) (by omega)
 have hl2:=Xbk hs0 (by omega)
 have hl3:=Xay e.digest (by omega)
 have hl4:=Xbq e.exts.length (by omega)
 have H1:=Qh (fun w hw=>Xcc I hI (headE e) (by omega) w hw)
 have H2:=Qh (fun w hw=>Xft I hI e.size hs0 (by omega) w hw)
 have H3:=Qh (fun w hw=>Xcc I hI e.digest (by omega) w hw)
 have H4:=Qh (fun w hw=>Xc5 I hI e.exts.length (by omega) w hw)
 clear hva hvx hc he
 generalize netP (headE e)=p1 at Hz hl1 H1
 generalize numP e.size=p2 at Hz hl2 H2
 generalize netP e.digest=p3 at Hz hl3 H3
 generalize numP (e.exts.length:Int)=p4 at Hz hl4 H4
 generalize headE e=hd at Hck H1 hhl hl1
 go_enter Tryz.func143,Tryz.ntmps143
 go_wp2_with fail
 refine (Hck.out _ (hw.alloc _)).mono ?_
 rintro e1 w1 ⟨rfl,hb1⟩
 have HB1:=Qh (entB (e:=e) rfl hb1)
 have hok1:Ok I w1:=(hw.alloc _).below (Qn _) hb1
 have hb1':=((Qb w.heap.size w).alloc (Qn _) (.cells #[.int .i64 e.kind,S e.path,.slice aa e.attrs.length ca,S e.target,.int .i64 e.size,S e.digest,.slice ax e.exts.length cx] 68)).trans (hb1.mono (by simp))
 have hbd1:Lib.IsBuilder 181 5 w1.heap.size w1.heap.size (Lib.byteCells []) (w1.alloc (.cells #[.pointer none,.slice none 0 0] 181)):=Lib.fresh_isBuilder _ _ w1
 have hsz1:w.heap.size<w1.heap.size:=by have:=hb1.size;simp at this;omega
 have hok1f:∀b,w1.heap.size≤b→I b=none:=fun b hb=>hok1.fresh hb
 have HB1a:=Qh (EntB.past HB1.out (.cells #[.pointer none,.slice none 0 0] 181))
 have hok1a:Ok I (w1.alloc (.cells #[.pointer none,.slice none 0 0] 181)):=hok1.alloc _
 obtain ⟨c0,c1,c2,c3,c4,c5,c6⟩:=HB1a.out
 have e4:=cell_regrown c4
 have e5:=cell_regrown c5
 have e6:=cell_regrown c6
 clear hb1 Hck c0 c1 c2 c3
 go_wp2_with fail
 refine Xaf 15 (by kernel_rfl) (by kernel_rfl) ?_
 simp only [List.take_succ_cons,List.take_zero,List.drop_succ_cons,List.drop_zero]
 repeat (go_big_quiet_step ((with_reducible first|exact Calls.regrown_of (H1.out _ (hok1a.below (Qn _) (below_regrown _ _ _)))|exact Calls.regrown_of (H2.out _ (hok1a.below (Qn _) (below_regrown _ _ _)))|exact Calls.regrown_of (H3.out _ (hok1a.below (Qn _) (below_regrown _ _ _)))|exact Calls.regrown_of (H4.out _ (hok1a.below (Qn _) (below_regrown _ _ _))))))
 refine wpQuiet_nil ?_
 intro w2 hwq
 have hb2:Below ((w1.alloc (.cells #[.pointer none,.slice none 0 0] 181))).heap.size ((w1.alloc (.cells #[.pointer none,.slice none 0 0] 181))) w2:=by
  obtain ⟨pq,rfl⟩:=hwq
  exact below_regrown _ _ _
 clear hwq
 have hbd2:=Xa3 hbd1 hb2
 have hok2:Ok I w2:=hok1a.below (Qn _) hb2
 have HB2:=Qh (HB1a.out.thru hb2)
 have hb2':Below w.heap.size w w2:=(hb1'.alloc (by have:=hb1'.size;omega) (.cells #[.pointer none,.slice none 0 0] 181)).trans (hb2.mono (by simp;omega))
 have hsz2:w1.heap.size≤w2.heap.size:=by have:=hb2.size;simp at this;omega
 clear e4 e5 e6 c4 c5 c6 hb2 HB1 HB1a hbd1 hok1 hok1a hb1' H1 H2 H3 H4
 go_wp2_with fail
 refine (Tryz.Builder_WriteString w1.heap.size w1.heap.size _ _ _ hbd2 (by rw [ByteArray.size_mk',List.size_toArray];simp [Lib.byteCells];omega) (by omega)).mono ?_
 rintro e7 w7 ⟨rfl,hbd7,hb7⟩
 have hsz7:=hbd7.lt
 have Hbd7:=Qh (Xcm (z:=encK e 0) hbd7 (by rw [←Hz.out];simp))
 have hok7:Ok I w7:=hok2.of_block fun b c hb=>hb7.block b (Nat.lt_of_not_le fun h=>by rw [hok1f b h] at hb;cases hb)
 have HB7:=Qh (HB2.out.far hb7 hsz1)
 have hb7':=hb2'.trans (hb7.mono (Nat.le_of_lt hsz1))
 clear hbd2 hbd7 hb7 hb2' hok2 HB2 hl0 hsz2
 obtain ⟨c0,c1,c2,c3,c4,c5,c6⟩:=HB7.out
 go_wp2_with fail
 clear c0 c1 c2 c3 c4 c5 c6
 go_loopw [36] (fun s36 wr=> ∃k:Nat,k≤e.exts.length∧s36= .int .i64 k∧Lib.IsBuilder 181 5 w1.heap.size w1.heap.size (Lib.byteCells (encK e k)) wr∧Ok I wr∧Below w.heap.size w wr∧w1.heap.size<wr.heap.size) (fun i _=>e.exts.length-(intOf i).toNat)
 case atStart=>exact ⟨0,Nat.zero_le _,rfl,Hbd7.out,hok7,hb7',hsz7⟩
 case round=>
  clear Hbd7 HB7 hb7' hok7 hsz7
  obtain ⟨k,hk,rfl,hbd,hwr,hb,hsz⟩:=hrel
  have Hbd:=Qh hbd
  clear hbd
  have hal:=Hl.out k
  by_cases hlt:k<e.exts.length
  ·obtain ⟨x,b,off,cap',hlx,hvv,c0,c1,c2⟩:=xtAt Hv.out hwr k hlt
   cases hvv
   obtain ⟨y0,y1,y2,y3,y4,y5⟩:=Hxs.out x (by rw [←hlx];exact List.getElem_mem hlt)
   have Hst:=Qh (Xli hlt hlx)
   have hm1:=Xbk (n:=x.s) (by omega) (by omega)
   have hm2:=Xbk (n:=x.o) (by omega) (by omega)
   have hm3:=Xbk (n:=x.n) (by omega) (by omega)
   have H1:=Qh (fun w hw=>Xft I hI x.s (by omega) (by omega) w hw)
   have H2:=Qh (fun w hw=>Xft I hI x.o (by omega) (by omega) w hw)
   have H3:=Qh (fun w hw=>Xft I hI x.n (by omega) (by omega) w hw)
   have hwa:Ok I (wr.alloc (.cells #[.int .i64 x.s,.int .i64 x.o,.int .i64 x.n] 91)):=hwr.alloc _
   have g0:=cell_regrown (show (wr.alloc (.cells #[.int .i64 x.s,.int .i64 x.o,.int .i64 x.n] 91)).cell? ⟨wr.heap.size,0,none⟩=some (.int .i64 x.s) by simp)
   have g1:=cell_regrown (show (wr.alloc (.cells #[.int .i64 x.s,.int .i64 x.o,.int .i64 x.n] 91)).cell? ⟨wr.heap.size,1,none⟩=some (.int .i64 x.o) by simp)
   have g2:=cell_regrown (show (wr.alloc (.cells #[.int .i64 x.s,.int .i64 x.o,.int .i64 x.n] 91)).cell? ⟨wr.heap.size,2,none⟩=some (.int .i64 x.n) by simp)
   clear hlx
   generalize numP x.s=q1 at Hst hm1 H1
   generalize numP x.o=q2 at Hst hm2 H2
   generalize numP x.n=q3 at Hst hm3 H3
   generalize encK e k=u at Hst hal Hbd
   go_wp2_with fail
   refine Xaf 11 (by kernel_rfl) (by kernel_rfl) ?_
   simp only [List.take_succ_cons,List.take_zero,List.drop_succ_cons,List.drop_zero]
   repeat (go_big_quiet_step ((with_reducible first|exact Calls.regrown_of (H1.out _ (hwa.below (Qn _) (below_regrown _ _ _)))|exact Calls.regrown_of (H2.out _ (hwa.below (Qn _) (below_regrown _ _ _)))|exact Calls.regrown_of (H3.out _ (hwa.below (Qn _) (below_regrown _ _ _))))))
   refine wpQuiet_nil ?_
   intro w2 hwq
   have hb2:Below ((wr.alloc (.cells #[.int .i64 x.s,.int .i64 x.o,.int .i64 x.n] 91))).heap.size ((wr.alloc (.cells #[.int .i64 x.s,.int .i64 x.o,.int .i64 x.n] 91))) w2:=by
    obtain ⟨pq,rfl⟩:=hwq
    exact below_regrown _ _ _
   clear hwq
   have hbd2:=Xa3 (Xjy Hbd.out _) hb2
   have hok2:Ok I w2:=hwa.below (Qn _) hb2
   have hb2':Below w.heap.size w w2:=(hb.alloc hb.size (.cells #[.int .i64 x.s,.int .i64 x.o,.int .i64 x.n] 91)).trans (hb2.mono (by have:=hb.size;simp;omega))
   have hsz2:w1.heap.size≤w2.heap.size:=by have:=hb2.size;simp at this;omega
   clear g0 g1 g2 hb2 hwa Hbd c0 c1 c2 H1 H2 H3
   go_wp2_with fail
   refine (Tryz.Builder_WriteString w1.heap.size w1.heap.size _ _ _ hbd2 (by rw [ByteArray.size_mk',List.size_toArray];simp [Lib.byteCells];omega) (by omega)).mono ?_
   rintro e7 w7 ⟨rfl,hbd7,hb7⟩
   have hsz7:=hbd7.lt
   have Hbd7:=Qh (Xcm (z:=encK e (k+1)) hbd7 (by rw [Hst.out];simp))
   have hok7:Ok I w7:=hok2.of_block fun b c hb=>hb7.block b (Nat.lt_of_not_le fun h=>by rw [hok1f b h] at hb;cases hb)
   have hb7':=hb2'.trans (hb7.mono (Nat.le_of_lt hsz1))
   clear hbd2 hbd7 hb7 hb2' hok2
   go_wp2
   go_roundw
   case rel=>exact ⟨k+1,by omega,by go_num,Hbd7.out,hok7,hb7',hsz7⟩
   case measure=>simp [intOf];omega
  ·have Hn:=Qh (Xjr e (k:=k) (by omega))
   rw [Hn.out] at Hbd
   go_wp2_with fail
   refine (Tryz.Builder_String_any w1.heap.size w1.heap.size _ _ Hbd.out (Nat.le_of_lt hsz)).mono ?_
   rintro e3 w4 ⟨rfl,hb4⟩
   go_wp2
   go_ret2
   exact ⟨rfl,hb.trans (hb4.mono (Nat.le_of_lt hsz1))⟩
end Go.Proofs.YtjdednajelommaaGreatDoor
