/-
  Walks and laws that the claim's theorem uses: texts BmS HiP Trj HiQ HiR BmR BmT, joined; comments out. Conditions: as each theorem says.
-/
import Derived.Test.YtdeknddamidldaaGreatDoorQ03
import Derived.Test.YtdeknddamidldaaGreatDoorQ09
import Derived.Laws.MakeOwn
namespace Go.Proofs.YtdeknddamidldaaGreatDoor
open Go.RowKit
def sumStart:List Int:= [bits .xor .u32 1779033703 16842784,3144134277,1013904242,2773480762,1359893119,2600822924,528734635,1541459225]
def hAt (s:Bytes):Nat→List Int
 |0=>sumStart
 |i+1=>compressP (hAt s i) ((s.drop (64*i)).take 64) ((64*i+64:Nat):Int) false
theorem Xcx (s:Bytes):∀i,(hAt s i).length=8
 |0=>rfl
 |_+1=>Xa0 ..
def lastAt (s:Bytes):Nat:=(s.length-1) / 64
def sumWords (s:Bytes):List Int:=compressP (hAt s (lastAt s)) (s.drop (64*lastAt s)++List.replicate (64-(s.length-64*lastAt s)) 0) (s.length:Int) true
def tB:Ty Int:=Ty.flat 1 (fun x=> [.int .u8 x]) (fun _=>rfl) (fun _ u h=>by simp at h;subst h;rfl)
def wordBytes (x:Int):List Int:= [x%256,x / 256%256,x / 65536%256,x / 16777216%256]
def outTo (G:List Int) (k:Nat):List Int:=(G.take k).flatMap wordBytes
theorem Xpn (G:List Int) (k:Nat) (hk:k<G.length):outTo G (k+1)=outTo G k++wordBytes (G.getD k 0):=by
 rw [outTo,outTo,List.take_succ_eq_append_getElem hk,List.flatMap_append]
 simp [List.getD,List.getElem?_eq_getElem hk]
theorem Xf6 (G:List Int):∀k,(outTo G k).length≤4*k:=by
 intro k
 have:∀L:List Int,(L.flatMap wordBytes).length=4*L.length:=by
  intro L
  induction L with
  |nil=>rfl
  |cons x L ih=>rw [List.flatMap_cons,List.length_append,ih];simp [wordBytes];omega
 rw [outTo,this];simp;omega
theorem Xii (I:IH) (x:Int):LiesL tB I [.int .u8 (x%256),.int .u8 (x / 256%256),.int .u8 (x / 65536%256),.int .u8 (x / 16777216%256)] (wordBytes x):=
 (((LiesL.one (T:=tB) (I:=I) (x:=x%256) (cs:= [.int .u8 (x%256)]) rfl).append (LiesL.one (T:=tB) (x:=x / 256%256) (cs:= [.int .u8 (x / 256%256)]) rfl)).append (LiesL.one (T:=tB) (x:=x / 65536%256) (cs:= [.int .u8 (x / 65536%256)]) rfl)).append (LiesL.one (T:=tB) (x:=x / 16777216%256) (cs:= [.int .u8 (x / 16777216%256)]) rfl)
theorem Xsy {I:IH} {xs:List Value} {l:List Int} (h:LiesL tB I xs l) (j:Nat) (hj:j<l.length):xs[j]? =some (.int .u8 l[j]):=by
 obtain ⟨cs,h1,h2⟩:=h.2 j hj
 have e:cs= [.int .u8 l[j]]:=h1
 subst e
 have:=h2 0 _ rfl
 rw [show j*tB.size+0=j by show j*1+0=j;omega] at this
 exact this
theorem Xe6:∀(l:List Int) (a:ByteArray),List.foldl (fun r n=>r.push (UInt8.ofNat n.toNat)) a l=⟨a.data++(l.map fun x=>UInt8.ofNat x.toNat).toArray⟩
 | [],a=>by simp
 |x::l,a=>by
  rw [List.foldl_cons,Xe6 l]
  apply ByteArray.ext
  simp [ByteArray.push]
theorem Xn8 (l:List Int):List.foldl (fun r n=>r.push (UInt8.ofNat n.toNat)) ByteArray.empty l=⟨(l.map fun x=>UInt8.ofNat x.toNat).toArray⟩:=by
 rw [Xe6]
 apply ByteArray.ext
 show (#[]:Array UInt8)++_=_
 simp
theorem Xoq {P:Program} {I:IH} {E src dst e:TypeId} {v:Value} {l:List Int} {B:Nat} (hs:P.underlying src=some (.slice e)) (he:P.underlying e=some (.int .u8)) (hd:P.underlying dst=some .string) (W:World) (h:OwnS tB E I W B v l) (hl:0<l.length):
 (convert src dst v).run P W= .ok (S (l.map fun x=>UInt8.ofNat x.toNat)) W:=by
 obtain ⟨xs,⟨_,hcase⟩,hL⟩:=h
 rcases hcase with ⟨_,h0⟩|⟨g,cap,cur,rfl,_,hg,_,_,_,ht⟩
 ·omega
 ·rw [run_convert_bytes_string _ _ _ e _ _ _ hs he hd,run_bytesToString (ns:=l)]
  ·rw [Xn8]
  ·have hc:=run_loadCells_list (P:=P) W ⟨g,0,none⟩ (l.map fun x=>Value.int .u8 x) (fun j u hu=>by
    have hj:j<l.length:=by simpa using (List.getElem?_eq_some_iff.1 hu).1
    rw [Addr.add_lit,Nat.zero_add,cell_of_row _ _ _ _ _ _ hg]
    have h1:=Xsy hL j hj
    rw [←ht,List.getElem?_take] at h1
    split at h1
    ·rw [←Array.getElem?_toList,h1];simpa [hj] using hu
    ·cases h1)
   simpa using hc
def sumP (s:Bytes):Bytes:=(outTo (sumWords s) 8).map fun x=>UInt8.ofNat x.toNat
theorem Xms:(Tryz.prog.info? 5).map (fun i=>(i.zero,i.size,i.bytes))=some (some (.int .u8 0),1,1):=by kernel_rfl
theorem Xt4:∃ZZ:Array Value,ZZ.size=32∧ ∀W,(Instr.makeSlice 117 (.int .i64 0) (.int .i64 32)).run Tryz.prog W= .ok (.slice (some ⟨W.heap.size,0,none⟩) 0 32) (W.alloc (.cells ZZ 5)):=by
 obtain ⟨i,h1,h2,h3,h4⟩:=info_parts Xms
 refine ⟨madeCells (Value.int .u8 0).cells (32*i.size),by rw [size_madeCells,h3],fun W=> ?_⟩
 exact run_make (P:=Tryz.prog) W 117 5 i _ Tryz.underlying117 h1 h2 .i64 .i64 0 32 (by omega) (by omega) (by rw [h4];omega) (by omega)
theorem Xg6:ElemOk Tryz.prog 117 5 tB 1:=ElemOk.of Tryz.underlying117 Xms rfl (by decide) rfl
set_option maxRecDepth 100000 in
set_option maxHeartbeats 2000000 in
theorem Xt5 (b off cap:Nat) (l:List Bytes) (s:Bytes) (hl:l.flatten=s) (hs:s.length≤140737488355328) (w:World) (hc:∀(j:Nat) x,l[j]? =some x→w.cell? ⟨b,off+j,none⟩=some (S x)) (hcap:l.length≤cap) (hbl:b<w.heap.size) (hn:l.length≤1000000):
 Calls Tryz.prog 48 #[.slice (some ⟨b,off,none⟩) l.length cap] w fun e w'=>e= .returned (S (sumP s))∧Below w.heap.size w w':=by
 have Hj:=Qh (Xrg b off cap l w hc hcap hbl hn (by rw [hl];exact hs))
 rw [hl] at Hj
 clear hc hl hcap hn hbl
 go_enter Tryz.func48,Tryz.ntmps48
 go_wp2_with fail
 refine Hj.out.mono ?_
 rintro e w0 ⟨rfl,hb0⟩
 clear Hj
 go_wp2_with fail
 refine (Xib _).mono ?_
 rintro e w1 ⟨rfl,hb1a⟩
 have hb1:=hb0.trans (hb1a.mono hb0.size)
 clear hb0 hb1a
 rw [show row blkIV= #[.int .u32 1779033703,.int .u32 3144134277,.int .u32 1013904242,.int .u32 2773480762,.int .u32 1359893119,.int .u32 2600822924,.int .u32 528734635,.int .u32 1541459225] from rfl]
 go_wp2_with fail
 obtain ⟨B,hBe⟩:∃B,w1.heap.size=B:=⟨_,rfl⟩
 have hBw:w.heap.size≤B:=by rw [←hBe];exact hb1.size
 have Hst:=Qh (show (w1.alloc (.cells (row sumStart) 130)).heap[B]? =some (.cells (row (hAt s 0)) 130 (0,0)) by rw [←hBe];exact heap_alloc_new _ _)
 have Hbl:=Qh (show Below w.heap.size w (w1.alloc (.cells (row sumStart) 130)) from hb1.alloc hb1.size _)
 rw [hBe]
 clear hb1 hBe
 obtain ⟨L,hL⟩:∃L,lastAt s=L:=⟨_,rfl⟩
 have hL':L=(s.length-1) / 64:=hL.symm
 have HL:=Qh hL;clear hL
 go_loopw [5] (fun s5 wr=> ∃i:Nat,i≤L∧s5= .int .i64 (64*(i:Int))∧Below w.heap.size w wr∧B<wr.heap.size∧wr.heap[B]? =some (.cells (row (hAt s i)) 130 (0,0))) (fun i _=>s.length-(intOf i).toNat)
 case atStart=>exact ⟨0,Nat.zero_le _,rfl,Hbl.out,(by have:=Hst.out;exact (Array.getElem?_eq_some_iff.1 this).1),Hst.out⟩
 case round=>
  clear Hst Hbl
  obtain ⟨i,hi,rfl,hb,hBs,hB⟩:=hrel
  by_cases hlt:i<L
  ·have hlen:64*i+64<s.length:=by omega
   obtain ⟨e0,e1,e2,e3,e4,e5,e6,e7,he⟩:=Xnf (Xcx s i)
   have He:=Qh he
   rw [he] at hB
   clear he
   have d0:wr.cell? ⟨B,0,none⟩=some (.int .u32 e0):=(cell_of_row wr B 0 _ _ _ hB).trans rfl
   have d1:wr.cell? ⟨B,1,none⟩=some (.int .u32 e1):=(cell_of_row wr B 1 _ _ _ hB).trans rfl
   have d2:wr.cell? ⟨B,2,none⟩=some (.int .u32 e2):=(cell_of_row wr B 2 _ _ _ hB).trans rfl
   have d3:wr.cell? ⟨B,3,none⟩=some (.int .u32 e3):=(cell_of_row wr B 3 _ _ _ hB).trans rfl
   have d4:wr.cell? ⟨B,4,none⟩=some (.int .u32 e4):=(cell_of_row wr B 4 _ _ _ hB).trans rfl
   have d5:wr.cell? ⟨B,5,none⟩=some (.int .u32 e5):=(cell_of_row wr B 5 _ _ _ hB).trans rfl
   have d6:wr.cell? ⟨B,6,none⟩=some (.int .u32 e6):=(cell_of_row wr B 6 _ _ _ hB).trans rfl
   have d7:wr.cell? ⟨B,7,none⟩=some (.int .u32 e7):=(cell_of_row wr B 7 _ _ _ hB).trans rfl
   have z0:=frozen_of_row wr B 0 _ _ hB
   have z1:=frozen_of_row wr B 1 _ _ hB
   have z2:=frozen_of_row wr B 2 _ _ hB
   have z3:=frozen_of_row wr B 3 _ _ hB
   have z4:=frozen_of_row wr B 4 _ _ hB
   have z5:=frozen_of_row wr B 5 _ _ hB
   have z6:=frozen_of_row wr B 6 _ _ hB
   have z7:=frozen_of_row wr B 7 _ _ hB
   have HB:=Qh hB;clear hB
   go_wp2_with fail
   have hw1:IntKind.i64.wrap (64*(i:Int)+64)=64*(i:Int)+64:=IntWalk.i64_in _ (by omega)
   have hw2:IntKind.u64.wrap (64*(i:Int)+64)=64*(i:Int)+64:=IntWalk.u64_in _ (by omega)
   have hw3:(0:Int)≤64*(i:Int)+64:=by omega
   have hw4:64*(i:Int)+64≤(s.length:Int):=by omega
   have hw5:(0:Int)≤64*(i:Int):=by omega
   have hw6:64*(i:Int)≤64*(i:Int)+64:=by omega
   have hw7:(64*(i:Int)+64).toNat=64*i+64:=by omega
   have hw8:(64*(i:Int)).toNat=64*i:=by omega
   have hw9:64*i+64-64*i=64:=by omega
   have hpl:((s.drop (64*i)).take 64).length=64:=by simp;omega
   obtain ⟨c0,c1,c2,c3,c4,c5,c6,c7,hc⟩:=Xnf (Xa0 [e0,e1,e2,e3,e4,e5,e6,e7] ((s.drop (64*i)).take 64) (64*(i:Int)+64) false)
   have Hc:=Qh hc
   clear hc
   go_region_law (go_simp;go_at_call 81;refine (Xge [e0,e1,e2,e3,e4,e5,e6,e7] rfl ((s.drop (64*i)).take 64) hpl (64*(i:Int)+64) false _).mono ?_;rintro e w' ⟨rfl,hb'⟩;rw [Hc.out,show row [c0,c1,c2,c3,c4,c5,c6,c7]= #[.int .u32 c0,.int .u32 c1,.int .u32 c2,.int .u32 c3,.int .u32 c4,.int .u32 c5,.int .u32 c6,.int .u32 c7] from rfl];have y0:w'.cell? ⟨B,0,none⟩=some (.int .u32 e0):=(hb'.cell hBs).trans d0;have y1:w'.cell? ⟨B,1,none⟩=some (.int .u32 e1):=(hb'.cell hBs).trans d1;have y2:w'.cell? ⟨B,2,none⟩=some (.int .u32 e2):=(hb'.cell hBs).trans d2;have y3:w'.cell? ⟨B,3,none⟩=some (.int .u32 e3):=(hb'.cell hBs).trans d3;have y4:w'.cell? ⟨B,4,none⟩=some (.int .u32 e4):=(hb'.cell hBs).trans d4;have y5:w'.cell? ⟨B,5,none⟩=some (.int .u32 e5):=(hb'.cell hBs).trans d5;have y6:w'.cell? ⟨B,6,none⟩=some (.int .u32 e6):=(hb'.cell hBs).trans d6;have y7:w'.cell? ⟨B,7,none⟩=some (.int .u32 e7):=(hb'.cell hBs).trans d7;have g0:w'.frozen? ⟨B,0,none⟩=false:=(hb'.frozen hBs).trans z0;have g1:w'.frozen? ⟨B,1,none⟩=false:=(hb'.frozen hBs).trans z1;have g2:w'.frozen? ⟨B,2,none⟩=false:=(hb'.frozen hBs).trans z2;have g3:w'.frozen? ⟨B,3,none⟩=false:=(hb'.frozen hBs).trans z3;have g4:w'.frozen? ⟨B,4,none⟩=false:=(hb'.frozen hBs).trans z4;have g5:w'.frozen? ⟨B,5,none⟩=false:=(hb'.frozen hBs).trans z5;have g6:w'.frozen? ⟨B,6,none⟩=false:=(hb'.frozen hBs).trans z6;have g7:w'.frozen? ⟨B,7,none⟩=false:=(hb'.frozen hBs).trans z7;have Hb':=Qh hb';clear hb')
   have hv0:=(Hb'.out.block B hBs).trans HB.out
   have hv:=heap_setCell (i:=7) c7 (heap_setCell (i:=6) c6 (heap_setCell (i:=5) c5 (heap_setCell (i:=4) c4 (heap_setCell (i:=3) c3 (heap_setCell (i:=2) c2 (heap_setCell (i:=1) c1 (heap_setCell (i:=0) c0 (hv0))))))))
   have hbw:Below w.heap.size w w':=hb.drew.trans (Hb'.out.mono hb.size)
   have hbw':=Below.setCell (Below.setCell (Below.setCell (Below.setCell (Below.setCell (Below.setCell (Below.setCell (Below.setCell (hbw) (p:=⟨B,0,none⟩) hBw (.int .u32 c0)) (p:=⟨B,1,none⟩) hBw (.int .u32 c1)) (p:=⟨B,2,none⟩) hBw (.int .u32 c2)) (p:=⟨B,3,none⟩) hBw (.int .u32 c3)) (p:=⟨B,4,none⟩) hBw (.int .u32 c4)) (p:=⟨B,5,none⟩) hBw (.int .u32 c5)) (p:=⟨B,6,none⟩) hBw (.int .u32 c6)) (p:=⟨B,7,none⟩) hBw (.int .u32 c7)
   have hsz':=Hb'.out.size
   go_wp2
   go_roundw
   case rel=>exact ⟨i+1,by omega,by go_num,hbw',(by simp [World.setCell];simp at hsz';omega),(by rw [hAt,He.out,show ((64*i+64:Nat):Int)=64*(i:Int)+64 by omega,Hc.out];exact hv)⟩
   case measure=>simp [intOf];omega
  ·have hie:i=L:=by omega
   have hle:s.length≤64*i+64:=by omega
   have hge:64*i≤s.length:=by omega
   have hw1:IntKind.i64.wrap (64-((s.length:Int)-64*(i:Int)))=64-((s.length:Int)-64*(i:Int)):=IntWalk.i64_in _ (by omega)
   have hw2:IntKind.i64.wrap ((s.length:Int)-64*(i:Int))=(s.length:Int)-64*(i:Int):=IntWalk.i64_in _ (by omega)
   have hw3:64*(i:Int)≤(s.length:Int):=by omega
   have hw4:(0:Int)≤64*(i:Int):=by omega
   have hw5:(64*(i:Int)).toNat=64*i:=by omega
   obtain ⟨c,hc64⟩:∃c:Nat,(64:Int)-((s.length:Int)-64*(i:Int))=c:=⟨64-(s.length-64*i),by omega⟩
   have hcn:c=64-(s.length-64*i):=by omega
   have HB:=Qh hB;clear hB
   have Hie:=Qh (show lastAt s=i by rw [HL.out,hie])
   have Hcn:=Qh hcn
   have hc1:c≤64:=by omega
   have hrl:(Lib.repeatL [0] (c:Int).toNat).length≤100:=by rw [Lib.repeatL_length];simp;omega
   have hrl2:(Lib.repeatL [0] c).length≤100:=by rw [Lib.repeatL_length];simp;omega
   clear hie hL' hcn hlt hi
   go_wp2_with fail
   refine wp_region_quiet_below (by kernel_rfl) (by kernel_rfl) ?_
   repeat (go_big_quiet_step ((exact Calls.regrown_of (Xpo [0] c _ (by omega) (by omega) (by simp;omega)))))
   refine wpQuiet_nil ?_
   intro w2 hwq
   have hb2:Below (wr).heap.size (wr) w2:=by
    obtain ⟨pq,rfl⟩:=hwq
    exact below_regrown _ _ _
   clear hwq
   obtain ⟨PB,hPB⟩:∃PB,List.take (s.length-64*i) (List.drop (64*i) s)++Lib.repeatL [0] c=PB:=⟨_,rfl⟩
   rw [hPB]
   have HPB:=Qh (show PB=s.drop (64*i)++List.replicate (64-(s.length-64*i)) 0 by rw [←hPB,repeatL_one,List.take_of_length_le (by simp),Hcn.out])
   have hPl:PB.length=64:=by rw [HPB.out];simp;omega
   clear hPB hrl hrl2
   have hl8:=Xcx s i
   have Hsum:=Qh (show sumWords s=compressP (hAt s i) PB (s.length:Int) true by rw [sumWords,Hie.out,HPB.out])
   have hB2:=(hb2.block B hBs).trans HB.out
   have hsz2:B<w2.heap.size:=by have:=hb2.size;omega
   have hbw2:Below w.heap.size w w2:=hb.trans (hb2.mono hb.size)
   generalize hAt s i=F at hB2 hl8 Hsum
   have hi8:(Tryz.prog.info? 130).map (·.size)=some (row F).size:=by rw [row_size,hl8];kernel_rfl
   have hu64:IntKind.u64.wrap (s.length:Int)=(s.length:Int):=IntWalk.u64_in _ (by omega)
   clear hb2 HB
   go_wp2_with (refine wpList_load_row rfl 130 _ rfl B rfl 130 (row F) (0,0) _ hB2 Tryz.underlying130 rfl hi8 ?_)
   refine (Xge F hl8 PB hPl (s.length:Int) true _).mono ?_
   rintro e w3 ⟨rfl,hb3⟩
   rw [←Hsum.out]
   have hl8':(sumWords s).length=8:=Xa0 ..
   obtain ⟨G,hG⟩:∃G,sumWords s=G:=⟨_,rfl⟩
   have HG:=Qh hG
   rw [hG] at hl8' ⊢
   clear hG
   have hB3:=(hb3.block B hsz2).trans hB2
   have hsz3:B<w3.heap.size:=by have:=hb3.size;omega
   have hbw3:Below w.heap.size w w3:=hbw2.trans (hb3.mono hbw2.size)
   have hi8':(Tryz.prog.info? 130).map (·.size)=some (row G).size:=by rw [row_size,hl8'];kernel_rfl
   have hz8:(row F).size=(row G).size:=by rw [row_size,row_size,hl8,hl8']
   have ho8:(row G).all (·.oneCell')=true:=by simp [row,Value.oneCell']
   clear hb3 Hsum
   go_upto_region 10 with (refine wpList_store_row rfl 130 _ _ rfl B (row G) rfl rfl 130 (row F) hB3 hi8' hz8 ho8 ?_)
   have hB4:(w3.setRow B (row G)).heap[B]? =some (.cells (row G) 130 (0,0)):=setRow_heap _ _ _ _ _ _ hB3
   have hbw4:Below w.heap.size w (w3.setRow B (row G)):=below_setRow hbw3 hBw _
   have hsz4:B<(w3.setRow B (row G)).heap.size:=by simpa using hsz3
   generalize w3.setRow B (row G)=w4 at hB4 hbw4 hsz4
   clear hB3 hbw3 hsz3
   obtain ⟨ZZ,hZZ,hmk⟩:=Xt4
   have hB5:(w4.alloc (.cells ZZ 5)).heap[B]? =some (.cells (row G) 130 (0,0)):=(Below.heap_alloc _ _ _ hsz4).trans hB4
   go_wp2_with (refine wpList_load_row rfl 130 _ rfl B rfl 130 (row G) (0,0) _ hB5 Tryz.underlying130 rfl hi8' ?_)
   have hB0:w.heap.size≤w4.heap.size:=hbw4.size
   have Hst:=Qh (show OwnS tB 5 (fun _=>none) (w4.alloc (.cells ZZ 5)) w4.heap.size (.slice (some ⟨w4.heap.size,0,none⟩) 0 32) [] from ⟨[],World.ownsRow_made w4 ZZ 32 (Qn _) (by decide) (by rw [hZZ];rfl),LiesL.nil _ _⟩)
   have Hbl:=Qh (hbw4.alloc hB0 (.cells ZZ 5))
   obtain ⟨B0,hB0e⟩:∃B0,w4.heap.size=B0:=⟨_,rfl⟩
   have hsz5:B0≤(w4.alloc (.cells ZZ 5)).heap.size:=by simp;omega
   rw [hB0e] at hB0 Hst ⊢
   clear hB4 hB5 hbw4 hsz4 hmk
   go_loopw [7,58] (fun s7 s58 wr=> ∃k:Nat,k≤8∧s58= .int .i64 k∧OwnS tB 5 (fun _=>none) wr B0 s7 (outTo G k)∧Below w.heap.size w wr∧B0≤wr.heap.size) (fun _ k _=>8-(intOf k).toNat)
   case atStart=>exact ⟨0,Nat.zero_le _,rfl,Hst.out,Hbl.out,hsz5⟩
   case round=>
    clear Hst Hbl hsz5
    obtain ⟨k,hk,rfl,hown,hbk,hszk⟩:=hrel
    by_cases hltk:k<8
    ·have hix:=Xc1 (P:=Tryz.prog) Tryz.underlying130 Tryz.underlying129 rfl (by kernel_rfl) k hltk (Xaw (l:=G) (i:=k) (by omega))
     have Hsc:=Qh (Xpn G k (by omega))
     have hol:=Xf6 G k
     generalize G.getD k 0=x at hix Hsc
     have hwl:(wordBytes x).length=4:=rfl
     have hly:=Xii (fun _=>none) x
     go_wp2_with (at_builtin;refine Xig (w0:=wr) Xg6 rfl _ _ rfl _ _ _ rfl hown (wordBytes x) [.int .u8 (x%256),.int .u8 (x / 256%256),.int .u8 (x / 65536%256),.int .u8 (x / 16777216%256)] _ rfl hly (by rw [hwl];omega) (by rw [hwl];omega) (by rw [hwl];omega) hszk ?_)
     intro v5 w5 hown5 hg5
     have hb5:=Below.own hbk hg5 hown hB0 hszk
     have hsz5:=hg5.size
     go_wp2
     go_roundw
     case rel=>exact ⟨k+1,by omega,by go_num,by rw [Hsc.out];exact hown5,hb5,by omega⟩
     case measure=>simp [intOf];omega
    ·have hke:k=8:=by omega
     have Hret:=Qh (show (outTo G k).map (fun x=>UInt8.ofNat x.toNat)=sumP s by rw [sumP,HG.out,hke])
     have hpos:0<(outTo G k).length:=by rw [hke];match G,hl8' with|_::_,_=>simp [outTo,wordBytes]
     have hcv:=Xoq (P:=Tryz.prog) Tryz.underlying117 Tryz.underlying5 Tryz.underlying9 _ hown hpos
     rw [Hret.out] at hcv
     clear hown hpos hke
     go_wp2
     go_ret
     exact ⟨rfl,hbk⟩
end Go.Proofs.YtdeknddamidldaaGreatDoor
namespace Go.Proofs.YtdeknddamidldaaGreatDoor
structure Ses where
 num:Int
 date:Int
 prev:Bytes
 ents:List Ent
 stream:Bytes
 sl:Bytes
def headE (e:Ent):Bytes:=netP (nameP e.kind)++netP e.path++attP e.attrs++netP e.target
def xtP (l:List Xt):Bytes:=l.flatMap fun x=>numP x.s++numP x.o++numP x.n
def encE (e:Ent):Bytes:=netP (headE e)++numP e.size++netP e.digest++numP e.exts.length++xtP e.exts
def sesHead (s:Ses):Bytes:=numP s.num++numP s.date++netP s.prev++(numP s.stream.length++netP (sumP s.stream)++numP s.ents.length)
def sesText (s:Ses):Bytes:=sesHead s++s.ents.flatMap encE
def fldErr (s:Ses):Int:=if s.num<1∨255<s.num∨s.date<0∨1000000000<s.date then 2 else if s.prev≠ []∧s.prev.length≠32 then 1 else 0
def entsErr:List Ent→Int
 | []=>0
 |e::l=>if entErr e≠0 then entErr e else entsErr l
def sesErr (s:Ses):Int:=if fldErr s≠0 then fldErr s else if 14680064<s.stream.length∨400<s.ents.length then 6 else if entsErr s.ents≠0 then entsErr s.ents else if 2000<s.sl.length then 6 else 0
def dirDig (s:Ses):Bytes × Int:=if sesErr s≠0 then ([],sesErr s) else (sumP (sesText s),0)
theorem Xl6 {s:Ses} (h:(dirDig s).2=0):sesErr s=0∧(dirDig s).1=sumP (sesText s):=by
 unfold dirDig at*
 split at h
 ·contradiction
 ·rename_i k
  rw [if_neg k]
  exact ⟨by omega,rfl⟩
theorem Xd4:∀ {l:List Ent},entsErr l=0→ ∀e∈l,entErr e=0
 | [],_,e,he=>by cases he
 |x::l,h,e,he=>by
  unfold entsErr at h
  split at h
  ·contradiction
  ·rename_i k
   rcases List.mem_cons.1 he with rfl|he
   ·omega
   ·exact Xd4 h e he
theorem Xce {s:Ses} (h:sesErr s=0):fldErr s=0∧s.stream.length≤14680064∧s.ents.length≤400∧entsErr s.ents=0∧s.sl.length≤2000:=by
 unfold sesErr at h
 split at h
 ·contradiction
 ·split at h
  ·omega
  ·split at h
   ·contradiction
   ·split at h
    ·omega
    ·rename_i k1 k2 k3 k4
     exact ⟨by omega,by omega,by omega,by omega,by omega⟩
theorem Xdp {s:Ses} (h:fldErr s=0):1≤s.num∧s.num≤255∧0≤s.date∧s.date≤1000000000∧(s.prev= []∨s.prev.length=32):=by
 unfold fldErr at h
 split at h
 ·omega
 ·split at h
  ·omega
  ·rename_i k1 k2
   refine ⟨by omega,by omega,by omega,by omega,?_⟩
   by_cases hp:s.prev= []
   ·exact .inl hp
   ·exact .inr (Classical.byContradiction fun q=>k2 ⟨hp,q⟩)
structure Stt where
 tree:List Ent
 holds:List Ho
def askP (s:Stt) (e:Ent) (d:Int):Int:=if 3<e.kind∨(getT s.tree e.path).isSome=true then alwP s.holds e.kind e.path d else 0
def stpP (s:Stt) (e:Ent) (d:Int):Stt × Int:=
 if (applyT s.tree e).2≠0 then (s,(applyT s.tree e).2)
 else if askP s e d≠0 then (s,askP s e d)
 else if (appH s.holds e d).2≠0 then (s,(appH s.holds e d).2)
 else (⟨(applyT s.tree e).1,(appH s.holds e d).1⟩,0)
def nilS:Stt:=⟨[],[]⟩
def runS (s:Stt) (d:Int) (l:List Ent):Stt:=l.foldl (fun s e=>(stpP s e d).1) s
def aftS (s:Stt) (l:List Ses):Stt:=l.foldl (fun s x=>runS s x.date x.ents) s
structure SOk (n:Nat) (s:Stt):Prop where
 tree:OkT s.tree
 holds:HOk s.holds
 tlen:s.tree.length≤n
 hlen:s.holds.length≤n
theorem Xql:SOk 0 nilS:=⟨(Xva []).1 rfl,Xjy,Qn _,Qn _⟩
theorem SOk.mono {n m:Nat} {s:Stt} (h:SOk n s) (hm:n≤m):SOk m s:=⟨h.tree,h.holds,Nat.le_trans h.tlen hm,Nat.le_trans h.hlen hm⟩
theorem Xcl {t:List Ent} {e:Ent} (h:(applyT t e).2=0):applyT t e=((applyT t e).1,0):=Prod.ext rfl h
theorem Xjf {n:Nat} {s:Stt} (h:SOk n s) (e:Ent) (d:Int):SOk (n+1) (stpP s e d).1:=by
 unfold stpP
 split
 ·exact h.mono (by omega)
 ·rename_i h1
  split
  ·exact h.mono (by omega)
  ·split
   ·exact h.mono (by omega)
   ·have ha:=Xcl (t:=s.tree) (e:=e) (by omega)
    obtain ⟨hpre,hx⟩:=applyT_iff.1 ha
    have hl:=Xut s.tree e
    have hh:appH s.holds e d=((appH s.holds e d).1,(appH s.holds e d).2):=rfl
    refine ⟨Xmm h.tree ha,Xvf h.holds hpre.ent hh,?_,?_⟩
    ·rw [hx];have:=h.tlen;show (opT s.tree e).length≤_;omega
    ·have:=Xt9 hh
     have:=h.hlen
     show (appH s.holds e d).1.length≤_
     omega
theorem Xqp:∀(l:List Ent) {n:Nat} {s:Stt} (_:SOk n s) (d:Int),SOk (n+l.length) (runS s d l)
 | [],_,_,h,_=>h
 |e::l,n,s,h,d=>by
  have:=Xqp l (Xjf h e d) d
  exact this.mono (by simp;omega)
def xtIn (l:List Ses) (x:Xt):Bool:=x.s==0 || (decide (x.s≤l.length)&&decide (x.o+x.n≤((l[(x.s-1).toNat]?).map fun s=>(s.stream.length:Int)).getD 0))
def storedP (l:List Ses) (e:Ent):Bool:=e.exts.all (xtIn l)
def entsH (l:List Ses) (d:Int):Stt→List Ent→Stt × Int
 |s,[]=>(s,0)
 |s,e::es=>if (stpP s e d).2≠0 then ((stpP s e d).1,(stpP s e d).2) else if storedP l e=false then ((stpP s e d).1,2) else entsH l d (stpP s e d).1 es
def chkFromH (l:List Ses):Nat→Stt→Bytes→Int→List Ses→Int
 |_,_,_,_,[]=>0
 |i,s,prev,date,x::xs=>
  if (dirDig x).2≠0 then (dirDig x).2
  else if x.num≠i+1∨x.date<date then 14
  else if x.prev≠prev then 20
  else if (entsH (l.take (i+1)) x.date s x.ents).2≠0 then (entsH (l.take (i+1)) x.date s x.ents).2
  else chkFromH l (i+1) (entsH (l.take (i+1)) x.date s x.ents).1 (dirDig x).1 x.date xs
def chkH (l:List Ses):Int:=chkFromH l 0 nilS [] 0 l
structure Ver where
 s:Int
 d:Int
 e:Ent
def verHit (s:Stt) (p:Bytes) (e:Ent):Bool:=(decide (e.kind≤3)&&e.path==p) || (e.kind==4&&(getT s.tree p).isSome&&under p e.path)
def verS (num d:Int) (p:Bytes):Stt→List Ent→List Ver
 |_,[]=> []
 |s,e::es=>(if verHit s p e then [⟨num,d,e⟩] else [])++verS num d p (stpP s e d).1 es
def verFrom (p:Bytes):Stt→List Ses→List Ver
 |_,[]=> []
 |s,x::xs=>verS x.num x.date p s x.ents++verFrom p (runS s x.date x.ents) xs
def verP (l:List Ses) (p:Bytes):List Ver:=verFrom p nilS l
def asOf (d:Int):List Ses→Nat
 | []=>0
 |x::l=>if d<x.date then 0 else asOf d l+1
end Go.Proofs.YtdeknddamidldaaGreatDoor
namespace Go.Proofs.YtdeknddamidldaaGreatDoor
def meaning (x y:Ent):Bool:=decide (x.kind=y.kind)&&decide (x.attrs=y.attrs)&&decide (x.target=y.target)&&decide (x.size=y.size)&&decide (x.digest=y.digest)
def diffM:List Ent→List Ent→List Bytes
 | [],[]=> []
 |x::a,[]=>x.path::diffM a []
 | [],y::b=>y.path::diffM [] b
 |x::a,y::b=>if ltE x y then x.path::diffM a (y::b) else if ltE y x then y.path::diffM (x::a) b else if meaning x y then diffM a b else x.path::diffM a b
termination_by a b=>a.length+b.length
def SrtP (l:List Bytes):Prop:=l.Pairwise fun p q=>ltP (els p) (els q)=true
def DiffAt (a b:List Ent) (p:Bytes):Prop:=(∃x∈a,x.path=p∧ ∀y∈b,y.path=p→meaning x y=false)∨(∃y∈b,y.path=p∧ ∀x∈a,x.path≠p)
end Go.Proofs.YtdeknddamidldaaGreatDoor
namespace Go.Proofs.YtdeknddamidldaaGreatDoor
theorem step_ok {s:Stt} {e:Ent} {d:Int} (h:(stpP s e d).2=0):applyT s.tree e=((applyT s.tree e).1,0)∧(stpP s e d).1.tree=opT s.tree e∧entErr e=0:=by
 unfold stpP at*
 split at h
 ·contradiction
 ·rename_i h1
  have ha:=Xcl (t:=s.tree) (e:=e) (by omega)
  obtain ⟨hp,hx⟩:=applyT_iff.1 ha
  split at h
  ·contradiction
  ·rename_i h2
   split at h
   ·contradiction
   ·rename_i h3
    rw [if_neg h1,if_neg h2,if_neg h3]
    exact ⟨ha,hx,hp.ent⟩
theorem Xb1 {t:List Ent} (h:SrtT t) {p:Bytes} {x:Ent}:getT t p=some x↔x∈t∧x.path=p:=by
 constructor
 ·intro k
  exact Xhx k
 ·rintro ⟨h1,rfl⟩
  exact Xff h h1
theorem Xs1 {s:Stt} {e:Ent} {d:Int} (hok:OkT s.tree) (h:(stpP s e d).2=0) (p:Bytes):
 getT (stpP s e d).1.tree p=if verHit s p e then (if e.kind=4 then none else some e) else getT s.tree p:=by
 obtain ⟨ha,ht,he⟩:=step_ok h
 have hok':=Xmm hok ha
 rw [(applyT_iff.1 ha).2] at hok'
 rw [ht]
 have hk:=Xba he
 have key:∀o:Option Ent,(∀x,getT (opT s.tree e) p=some x↔o=some x)→getT (opT s.tree e) p=o:=by
  intro o h
  cases hg:getT (opT s.tree e) p with
  |some x=>exact ((h x).1 hg).symm
  |none=>
   cases ho:o with
   |none=>rfl
   |some y=>rw [(h y).2 ho] at hg;cases hg
 apply key
 intro x
 rw [Xb1 hok'.srt,Xra hok.srt]
 unfold verHit
 by_cases k3:e.kind≤3
 ·rw [Qt k3,show (e.kind==4)=false by simp;omega]
  simp only [Bool.true_and,Bool.false_and,Bool.or_false]
  by_cases hp:e.path=p
  ·rw [show (e.path==p)=true by simpa using hp,if_pos rfl,if_neg (by omega)]
   constructor
   ·rintro ⟨(⟨_,rfl⟩|⟨hx,hn,_⟩),hxp⟩
    ·rfl
    ·exact absurd (hxp.trans hp.symm) (hn k3)
   ·intro hxe
    cases hxe
    exact ⟨.inl ⟨k3,rfl⟩,hp⟩
  ·rw [show (e.path==p)=false by simpa using hp,if_neg (by simp),Xb1 hok.srt]
   constructor
   ·rintro ⟨(⟨_,rfl⟩|⟨hx,_⟩),hxp⟩
    ·exact absurd hxp hp
    ·exact ⟨hx,hxp⟩
   ·rintro ⟨hx,hxp⟩
    exact ⟨.inr ⟨hx,fun _ k=>hp (by rw [←k,hxp]),fun k4=>by omega⟩,hxp⟩
 ·rw [Qf k3]
  simp only [Bool.false_and,Bool.false_or]
  by_cases k4:e.kind=4
  ·rw [show (e.kind==4)=true by simpa using k4]
   simp only [Bool.true_and]
   by_cases hh:((getT s.tree p).isSome&&under p e.path)=true
   ·rw [if_pos hh,if_pos k4]
    rw [Bool.and_eq_true] at hh
    constructor
    ·rintro ⟨(⟨k,_⟩|⟨hx,_,hu⟩),hxp⟩
     ·exact absurd k k3
     ·have:=hu k4
      rw [hxp,hh.2] at this
      cases this
    ·intro k;cases k
   ·rw [if_neg hh,Xb1 hok.srt]
    constructor
    ·rintro ⟨(⟨k,_⟩|⟨hx,_⟩),hxp⟩
     ·exact absurd k k3
     ·exact ⟨hx,hxp⟩
    ·rintro ⟨hx,hxp⟩
     refine ⟨.inr ⟨hx,fun k=>absurd k k3,fun _=> ?_⟩,hxp⟩
     cases hu:under x.path e.path with
     |false=>rfl
     |true=>
      rw [hxp] at hu
      exact absurd (show ((getT s.tree p).isSome&&under p e.path)=true by rw [hu,(Xb1 hok.srt).2 ⟨hx,hxp⟩];rfl) hh
  ·rw [show (e.kind==4)=false by simpa using k4]
   simp only [Bool.false_and]
   rw [if_neg (by simp),Xb1 hok.srt]
   constructor
   ·rintro ⟨(⟨k,_⟩|⟨hx,_⟩),hxp⟩
    ·exact absurd k k3
    ·exact ⟨hx,hxp⟩
   ·rintro ⟨hx,hxp⟩
    exact ⟨.inr ⟨hx,fun k=>absurd k k3,fun k=>absurd k k4⟩,hxp⟩
def lastE (i:Option Ent) (l:List Ver):Option Ent:=l.foldl (fun _ v=>if v.e.kind=4 then none else some v.e) i
def AllOk (d:Int):Stt→List Ent→Prop
 |_,[]=>True
 |s,e::es=>(stpP s e d).2=0∧AllOk d (stpP s e d).1 es
theorem Xr2 {L:List Ses} {d:Int}:∀ {es:List Ent} {s:Stt},(entsH L d s es).2=0→AllOk d s es∧(entsH L d s es).1=runS s d es∧ ∀e∈es,storedP L e=true
 | [],s,_=>⟨trivial,rfl,fun e he=>by cases he⟩
 |e::es,s,h=>by
  rw [entsH] at h ⊢
  by_cases h1:(stpP s e d).2=0
  ·rw [if_neg (by omega)] at h ⊢
   by_cases h2:storedP L e=false
   ·rw [if_pos h2] at h
    have h:(2:Int)=0:=h
    omega
   ·rw [if_neg h2] at h ⊢
    obtain ⟨i1,i2,i3⟩:=Xr2 h
    refine ⟨⟨h1,i1⟩,i2,fun x hx=> ?_⟩
    rcases List.mem_cons.1 hx with rfl|hx
    ·simpa using h2
    ·exact i3 x hx
  ·rw [if_pos h1] at h
   exact absurd h h1
theorem Xqq (num d:Int) (p:Bytes):∀(es:List Ent) (s:Stt) (n:Nat),SOk n s→AllOk d s es→getT (runS s d es).tree p=lastE (getT s.tree p) (verS num d p s es)
 | [],_,_,_,_=>rfl
 |e::es,s,n,hs,⟨h1,h2⟩=>by
  show getT (runS (stpP s e d).1 d es).tree p=_
  rw [Xqq num d p es _ _ (Xjf hs e d) h2,Xs1 hs.tree h1,verS]
  unfold lastE
  rw [List.foldl_append]
  cases verHit s p e<;>rfl
def AllSes:Stt→List Ses→Prop
 |_,[]=>True
 |s,x::xs=>AllOk x.date s x.ents∧AllSes (runS s x.date x.ents) xs
theorem Xsl (p:Bytes):∀(xs:List Ses) (s:Stt) (n:Nat),SOk n s→AllSes s xs→getT (aftS s xs).tree p=lastE (getT s.tree p) (verFrom p s xs)
 | [],_,_,_,_=>rfl
 |x::xs,s,n,hs,⟨h1,h2⟩=>by
  show getT (aftS (runS s x.date x.ents) xs).tree p=_
  rw [Xsl p xs _ _ (Xqp x.ents hs x.date) h2,Xqq x.num x.date p x.ents s n hs h1,verFrom]
  unfold lastE
  rw [List.foldl_append]
structure SesIn (i:Nat) (prev:Bytes) (date:Int) (x:Ses):Prop where
 dig:(dirDig x).2=0
 num:x.num=i+1
 date:date≤x.date
 prev:x.prev=prev
theorem Xfh {l:List Ses} {i:Nat} {s:Stt} {prev:Bytes} {date:Int} {x:Ses} {xs:List Ses} (h:chkFromH l i s prev date (x::xs)=0):
 SesIn i prev date x∧AllOk x.date s x.ents∧(∀e∈x.ents,storedP (l.take (i+1)) e=true)∧chkFromH l (i+1) (runS s x.date x.ents) (dirDig x).1 x.date xs=0:=by
 rw [chkFromH] at h
 by_cases h1:(dirDig x).2=0
 ·rw [if_neg (by omega)] at h
  by_cases h2:x.num≠i+1∨x.date<date
  ·rw [if_pos h2] at h;exact absurd h (by decide)
  ·rw [if_neg h2] at h
   by_cases h3:x.prev=prev
   ·rw [if_neg (by simpa using h3)] at h
    by_cases h4:(entsH (l.take (i+1)) x.date s x.ents).2=0
    ·rw [if_neg (by omega)] at h
     obtain ⟨i1,i2,i3⟩:=Xr2 h4
     rw [i2] at h
     exact ⟨⟨h1,by omega,by omega,h3⟩,i1,i3,h⟩
    ·rw [if_pos h4] at h;exact absurd h h4
   ·rw [if_pos h3] at h;exact absurd h (by decide)
 ·rw [if_pos h1] at h;exact absurd h h1
theorem Xnu {l:List Ses}:∀ {xs:List Ses} {i:Nat} {s:Stt} {prev:Bytes} {date:Int},chkFromH l i s prev date xs=0→AllSes s xs
 | [],_,_,_,_,_=>trivial
 |x::xs,i,s,prev,date,h=>by
  obtain ⟨_,h2,_,h4⟩:=Xfh h
  exact ⟨h2,Xnu h4⟩
theorem Xsf {l:List Ses}:∀ {xs:List Ses} {i:Nat} {s:Stt} {prev:Bytes} {date:Int},chkFromH l i s prev date xs=0→ ∀(j:Nat) (x:Ses),xs[j]? =some x→x.num=i+j+1
 | [],_,_,_,_,_,j,x,hx=>by simp at hx
 |y::xs,i,s,prev,date,h,j,x,hx=>by
  obtain ⟨h1,_,_,h4⟩:=Xfh h
  cases j with
  |zero=>
   have:y=x:=by simpa using hx
   subst this
   have:=h1.num
   omega
  |succ j=>
   have:=Xsf h4 j x (by simpa using hx)
   omega
theorem Xlh {l:List Ses} (h:chkH l=0) (p:Bytes):getT (aftS nilS l).tree p=lastE none (verP l p):=Xsl p l nilS 0 Xql (Xnu h)
theorem Xpp (i:Option Ent) (l:List Ver) (v:Ver):lastE i (l++ [v])=if v.e.kind=4 then none else some v.e:=by simp [lastE]
end Go.Proofs.YtdeknddamidldaaGreatDoor
namespace Go.Proofs.YtdeknddamidldaaGreatDoor
theorem Xor {l:List Ses} {k:Nat}:∀(m:Nat) {xs:List Ses} {i:Nat} {s:Stt} {prev:Bytes} {date:Int},i+m≤k→chkFromH l i s prev date xs=0→chkFromH (l.take k) i s prev date (xs.take m)=0
 |0,xs,i,s,prev,date,_,_=>by rw [List.take_zero];rfl
 |m+1,[],i,s,prev,date,_,_=>rfl
 |m+1,x::xs,i,s,prev,date,hk,h=>by
  obtain ⟨h1,h2,h3,h4⟩:=Xfh h
  have ih:=Xor (k:=k) m (xs:=xs) (i:=i+1) (by omega) h4
  rw [List.take_succ_cons,chkFromH,if_neg (by have:=h1.dig;omega),if_neg (by have:=h1.num;have:=h1.date;omega),if_neg (by simpa using h1.prev)]
  have ht:(l.take k).take (i+1)=l.take (i+1):=by rw [List.take_take,Nat.min_eq_left (by omega)]
  rw [ht]
  have he:entsH (l.take (i+1)) x.date s x.ents=(runS s x.date x.ents,0):=by
   clear ih h4 h1 ht h
   generalize x.ents=es at h2 h3
   induction es generalizing s with
   |nil=>rfl
   |cons e es ihe=>
    obtain ⟨a1,a2⟩:=h2
    rw [entsH,if_neg (by omega),if_neg (by rw [h3 e (List.mem_cons_self ..)];simp)]
    exact ihe _ a2 fun z hz=>h3 z (List.mem_cons_of_mem _ hz)
  rw [he,if_neg (by simp)]
  exact ih
theorem Xnt {l:List Ses} (h:chkH l=0) (k:Nat):chkH (l.take k)=0:=Xor k (by omega) h
theorem Xp5 (s:Stt) (a b:List Ses):aftS s (a++b)=aftS (aftS s a) b:=List.foldl_append
theorem Xin (p:Bytes):∀(a b:List Ses) (s:Stt),verFrom p s (a++b)=verFrom p s a++verFrom p (aftS s a) b
 | [],b,s=>rfl
 |x::a,b,s=>by
  rw [List.cons_append,verFrom,verFrom,Xin p a b,List.append_assoc]
  rfl
theorem Xn3 {num d:Int} {p:Bytes}:∀ {es:List Ent} {s:Stt} {v:Ver},v∈verS num d p s es→v.s=num∧v.d=d∧v.e∈es
 | [],s,v,h=>by cases h
 |e::es,s,v,h=>by
  rw [verS] at h
  rcases List.mem_append.1 h with h|h
  ·split at h
   ·rw [List.mem_singleton.1 h]
    exact ⟨rfl,rfl,List.mem_cons_self ..⟩
   ·cases h
  ·obtain ⟨h1,h2,h3⟩:=Xn3 h
   exact ⟨h1,h2,List.mem_cons_of_mem _ h3⟩
theorem Xqd {p:Bytes}:∀ {xs:List Ses} {s:Stt} {v:Ver},v∈verFrom p s xs→ ∃(j:Nat) (x:Ses),xs[j]? =some x∧v.s=x.num∧v.d=x.date
 | [],s,v,h=>by cases h
 |x::xs,s,v,h=>by
  rw [verFrom] at h
  rcases List.mem_append.1 h with h|h
  ·obtain ⟨h1,h2,_⟩:=Xn3 h
   exact ⟨0,x,rfl,h1,h2⟩
  ·obtain ⟨j,y,hj,h1,h2⟩:=Xqd h
   exact ⟨j+1,y,by simpa using hj,h1,h2⟩
theorem Xsq {l:List Ses} (h:chkH l=0) (k:Nat) (p:Bytes):∃r,verP l p=verP (l.take k) p++r∧ ∀v∈r,(k:Int)<v.s:=by
 refine ⟨verFrom p (aftS nilS (l.take k)) (l.drop k),?_,fun v hv=> ?_⟩
 ·unfold verP
  conv=>lhs;rw [←List.take_append_drop k l]
  exact Xin p _ _ _
 ·obtain ⟨j,x,hj,hs,_⟩:=Xqd hv
  rw [List.getElem?_drop] at hj
  have:=Xsf h (k+j) x hj
  omega
theorem Xgq {l:List Ses}:∀ {xs:List Ses} {i:Nat} {s:Stt} {prev:Bytes} {date:Int},chkFromH l i s prev date xs=0→ ∀(j:Nat) (a b:Ses),xs[j]? =some a→xs[j+1]? =some b→b.prev=(dirDig a).1∧(dirDig a).2=0
 | [],_,_,_,_,_,j,a,b,ha,_=>by simp at ha
 |x::xs,i,s,prev,date,h,j,a,b,ha,hb=>by
  obtain ⟨h1,_,_,h4⟩:=Xfh h
  cases j with
  |zero=>
   have:x=a:=by simpa using ha
   subst this
   cases xs with
   |nil=>simp at hb
   |cons y ys=>
    have:y=b:=by simpa using hb
    subst this
    exact ⟨(Xfh h4).1.prev,h1.dig⟩
  |succ j=>exact Xgq h4 j a b (by simpa using ha) (by simpa using hb)
theorem Xkn {l:List Ses} (h:chkH l=0) {k:Nat} (hk:k+1<l.length) {x:Ses} (hx:¬((dirDig x).2=0∧(dirDig (l[k]'(by omega))).1=(dirDig x).1)):chkH (l.set k x)≠0:=by
 intro h'
 have h1:=Xgq h k (l[k]'(by omega)) l[k+1] (List.getElem?_eq_getElem _) (List.getElem?_eq_getElem _)
 have h2:=Xgq h' k x l[k+1] (by rw [List.getElem?_set_self (by omega)]) (by rw [List.getElem?_set_ne (by omega)];exact List.getElem?_eq_getElem _)
 exact hx ⟨h2.2,h1.1.symm.trans h2.1⟩
def writes (p:Bytes) (e:Ent):Bool:=decide (e.kind≤3)&&e.path==p
def wrCount (p:Bytes) (l:List Ses):Nat:=(l.flatMap fun x=>x.ents.filter (writes p)).length
def keeps (v:Ver):Bool:=decide (v.e.kind≠4)
def AltOk:Bool→List Ver→Prop
 |_,[]=>True
 |r,v::vs=>if v.e.kind=4 then r=false∧AltOk true vs else AltOk false vs
end Go.Proofs.YtdeknddamidldaaGreatDoor
namespace Go.Proofs.YtdeknddamidldaaGreatDoor
open Go.RowKit
def four (l:List Int) (a b c d:Nat) (va vb vc vd:Int):List Int:=(((l.set a va).set b vb).set c vc).set d vd
theorem Xhz (l:List Int) (a b c d:Nat) (va vb vc vd:Int):(four l a b c d va vb vc vd).length=l.length:=by simp [four]
theorem Xrz (l:List Int) (a b c d:Nat) (ha:a<l.length) (hb:b<l.length) (hc:c<l.length) (hd:d<l.length):four l a b c d (l.getD a 0) (l.getD b 0) (l.getD c 0) (l.getD d 0)=l:=by
 simp [four,List.getD,ha,hb,hc,hd]
structure Apart (n a b c d:Nat):Prop where
 la:a<n
 lb:b<n
 lc:c<n
 ld:d<n
 ab:a≠b
 ac:a≠c
 ad:a≠d
 bc:b≠c
 bd:b≠d
 cd:c≠d
section
variable {l:List Int} {a b c d:Nat} {va vb vc vd:Int}
theorem Xry (h:Apart l.length a b c d) (x:Int):(four l a b c d va vb vc vd).set a x=four l a b c d x vb vc vd:=by
 unfold four
 rw [List.set_comm _ _ h.ad.symm,List.set_comm _ _ h.ac.symm,List.set_comm _ _ h.ab.symm,List.set_set]
theorem Xrx (h:Apart l.length a b c d) (x:Int):(four l a b c d va vb vc vd).set b x=four l a b c d va x vc vd:=by
 unfold four
 rw [List.set_comm _ _ h.bd.symm,List.set_comm _ _ h.bc.symm,List.set_set]
theorem Xrw (h:Apart l.length a b c d) (x:Int):(four l a b c d va vb vc vd).set c x=four l a b c d va vb x vd:=by
 unfold four
 rw [List.set_comm _ _ h.cd.symm,List.set_set]
theorem Xrv (_h:Apart l.length a b c d) (x:Int):(four l a b c d va vb vc vd).set d x=four l a b c d va vb vc x:=by
 unfold four
 rw [List.set_set]
theorem Xbs {l:List Int} {i j:Nat} (h:i≠j) (x:Int):(l.set i x).getD j 0=l.getD j 0:=by
 simp [List.getD,List.getElem?_set_ne h]
theorem Xcr {l:List Int} {i:Nat} (h:i<l.length) (x:Int):(l.set i x).getD i 0=x:=by
 simp [List.getD,h]
theorem Xvz (h:Apart l.length a b c d):(four l a b c d va vb vc vd).getD a 0=va:=by
 unfold four
 rw [Xbs h.ad.symm,Xbs h.ac.symm,Xbs h.ab.symm,Xcr h.la]
theorem Xvy (h:Apart l.length a b c d):(four l a b c d va vb vc vd).getD b 0=vb:=by
 unfold four
 rw [Xbs h.bd.symm,Xbs h.bc.symm,Xcr (by simpa using h.lb)]
theorem Xvx (h:Apart l.length a b c d):(four l a b c d va vb vc vd).getD c 0=vc:=by
 unfold four
 rw [Xbs h.cd.symm,Xcr (by simpa using h.lc)]
theorem Xvw (h:Apart l.length a b c d):(four l a b c d va vb vc vd).getD d 0=vd:=by
 unfold four
 rw [Xcr (by simpa using h.ld)]
end
structure MixM (w:World) (t:TypeId) (l:List Int) (a b c d:Nat) (va vb vc vd:Int) (X:World):Prop where
 row_:X.heap[w.heap.size]? =some (.cells (row (four l a b c d va vb vc vd)) t (0,0))
 zero:X.heap[w.heap.size+1]? =some (.cells (row (List.replicate 16 0)) t (0,0))
 below:Below w.heap.size w X
section
variable {w X X':World} {t:TypeId} {l:List Int} {a b c d:Nat} {va vb vc vd:Int}
theorem MixM.lt (h:MixM w t l a b c d va vb vc vd X):w.heap.size+1<X.heap.size:=(Array.getElem?_eq_some_iff.1 h.zero).1
theorem MixM.pass (h:MixM w t l a b c d va vb vc vd X) (hb:Below X.heap.size X X'):MixM w t l a b c d va vb vc vd X':=
 ⟨(hb.block _ (by have:=h.lt;omega)).trans h.row_,(hb.block _ h.lt).trans h.zero,h.below.trans (hb.mono h.below.size)⟩
theorem MixM.cell (h:MixM w t l a b c d va vb vc vd X) (q:Nat) (hq:q<l.length):X.cell? ⟨w.heap.size,q,none⟩=some (.int .u32 ((four l a b c d va vb vc vd).getD q 0)):=
 (cell_of_row X _ q _ _ _ h.row_).trans (Xaw (by rw [Xhz];exact hq))
theorem MixM.ca (h:MixM w t l a b c d va vb vc vd X) (k:Apart l.length a b c d):X.cell? ⟨w.heap.size,a,none⟩=some (.int .u32 va):=by rw [h.cell a k.la,Xvz k]
theorem MixM.cb (h:MixM w t l a b c d va vb vc vd X) (k:Apart l.length a b c d):X.cell? ⟨w.heap.size,b,none⟩=some (.int .u32 vb):=by rw [h.cell b k.lb,Xvy k]
theorem MixM.cc (h:MixM w t l a b c d va vb vc vd X) (k:Apart l.length a b c d):X.cell? ⟨w.heap.size,c,none⟩=some (.int .u32 vc):=by rw [h.cell c k.lc,Xvx k]
theorem MixM.cd (h:MixM w t l a b c d va vb vc vd X) (k:Apart l.length a b c d):X.cell? ⟨w.heap.size,d,none⟩=some (.int .u32 vd):=by rw [h.cell d k.ld,Xvw k]
theorem MixM.fr (h:MixM w t l a b c d va vb vc vd X) (q:Nat):X.frozen? ⟨w.heap.size,q,none⟩=false:=frozen_of_row X _ q _ _ h.row_
theorem MixM.put (h:MixM w t l a b c d va vb vc vd X) (q:Nat) (x:Int) {L:List Int} (hL:(four l a b c d va vb vc vd).set q x=L) {va' vb' vc' vd':Int} (hL':L=four l a b c d va' vb' vc' vd'):MixM w t l a b c d va' vb' vc' vd' (X.setCell ⟨w.heap.size,q,none⟩ (.int .u32 x)):=by
 subst hL'
 refine ⟨?_,?_,h.below.setCell (p:=⟨w.heap.size,q,none⟩) (Qn _) _⟩
 ·rw [←hL];exact heap_setCell x h.row_
 ·rw [Below.heap_setCell _ _ _ _ (by simp)];exact h.zero
theorem MixM.pa (h:MixM w t l a b c d va vb vc vd X) (k:Apart l.length a b c d) (x:Int):MixM w t l a b c d x vb vc vd (X.setCell ⟨w.heap.size,a,none⟩ (.int .u32 x)):=h.put a x (Xry k x) rfl
theorem MixM.pb (h:MixM w t l a b c d va vb vc vd X) (k:Apart l.length a b c d) (x:Int):MixM w t l a b c d va x vc vd (X.setCell ⟨w.heap.size,b,none⟩ (.int .u32 x)):=h.put b x (Xrx k x) rfl
theorem MixM.pc (h:MixM w t l a b c d va vb vc vd X) (k:Apart l.length a b c d) (x:Int):MixM w t l a b c d va vb x vd (X.setCell ⟨w.heap.size,c,none⟩ (.int .u32 x)):=h.put c x (Xrw k x) rfl
theorem MixM.pd (h:MixM w t l a b c d va vb vc vd X) (k:Apart l.length a b c d) (x:Int):MixM w t l a b c d va vb vc x (X.setCell ⟨w.heap.size,d,none⟩ (.int .u32 x)):=h.put d x (Xrv k x) rfl
end
theorem Xby (x:Int) (k d m:Int) (hk:RotAt k d m) (w:World):
 Calls Tryz.prog 193 #[.int .u32 x,.int .u64 k] w fun e w'=>e= .returned (.int .u32 (rotr d m x))∧Below w.heap.size w w':=
 (Xk3 x k d m hk w).mono fun _ _ ⟨h1,h2⟩=>⟨h1,by rw [h2];exact Qb _ _⟩
theorem Xun:RotAt 16 65536 65536:= .inl ⟨rfl,rfl,rfl⟩
theorem Xuo:RotAt 12 4096 1048576:= .inr (.inl ⟨rfl,rfl,rfl⟩)
theorem Xvq:RotAt 8 256 16777216:= .inr (.inr (.inl ⟨rfl,rfl,rfl⟩))
theorem Xvr:RotAt 7 128 33554432:= .inr (.inr (.inr ⟨rfl,rfl,rfl⟩))
theorem Xvv {α:Type}:∀ {l:List α},l.length=16→ ∃a b c d e f g h i j k m n o p q,l= [a,b,c,d,e,f,g,h,i,j,k,m,n,o,p,q]
 | [a,b,c,d,e,f,g,h,i,j,k,m,n,o,p,q],_=>⟨a,b,c,d,e,f,g,h,i,j,k,m,n,o,p,q,rfl⟩
set_option maxRecDepth 100000 in
set_option maxHeartbeats 2000000 in
theorem Xk4 (l:List Int) (hl:l.length=16) (qa qb qc qd:Nat) (x y:Int) (w:World) (hap:Apart 16 qa qb qc qd):
 Calls Tryz.prog 156 #[.agg (row l),.int .i64 qa,.int .i64 qb,.int .i64 qc,.int .i64 qd,.int .u32 x,.int .u32 y] w fun e w'=>e= .returned (.agg (row (mixP l qa qb qc qd x y)))∧Below w.heap.size w w':=by
 have Hap:Hid (Apart l.length qa qb qc qd):=Qh (by rw [hl];exact hap)
 have hM0:MixM w 173 l qa qb qc qd (l.getD qa 0) (l.getD qb 0) (l.getD qc 0) (l.getD qd 0) ((w.alloc (.cells (row l) 173)).alloc (.cells (row (List.replicate 16 0)) 173)):=
  ⟨by rw [Xrz _ _ _ _ _ Hap.out.la Hap.out.lb Hap.out.lc Hap.out.ld];exact (Below.heap_alloc (w.alloc (.cells (row l) 173)) (.cells (row (List.replicate 16 0)) 173) w.heap.size (by simp)).trans (heap_alloc_new w (.cells (row l) 173)),
    (by have h:=heap_alloc_new (w.alloc (.cells (row l) 173)) (.cells (row (List.replicate 16 0)) 173);rwa [show (w.alloc (.cells (row l) 173)).heap.size=w.heap.size+1 by simp] at h),
    ((Qb w.heap.size w).alloc (Qn _) (.cells (row l) 173)).alloc (by simp) (.cells (row (List.replicate 16 0)) 173)⟩
 obtain ⟨va,eva⟩:∃va,l.getD qa 0=va:=⟨_,rfl⟩
 obtain ⟨vb,evb⟩:∃vb,l.getD qb 0=vb:=⟨_,rfl⟩
 obtain ⟨vc,evc⟩:∃vc,l.getD qc 0=vc:=⟨_,rfl⟩
 obtain ⟨vd,evd⟩:∃vd,l.getD qd 0=vd:=⟨_,rfl⟩
 have Hm:=Qh (show mixP l qa qb qc qd x y=four l qa qb qc qd (mixW va vb vc vd x y).1 (mixW va vb vc vd x y).2.1 (mixW va vb vc vd x y).2.2.1 (mixW va vb vc vd x y).2.2.2 by rw [mixP,eva,evb,evc,evd,four])
 rw [eva,evb,evc,evd] at hM0
 clear eva evb evc evd
 have HM:=Qh hM0
 clear hM0
 have n1:(qa:Int)<16:=by have:=hap.la;omega
 have n2:(qb:Int)<16:=by have:=hap.lb;omega
 have n3:(qc:Int)<16:=by have:=hap.lc;omega
 have n4:(qd:Int)<16:=by have:=hap.ld;omega
 clear hap
 obtain ⟨v0,v1,v2,v3,v4,v5,v6,v7,v8,v9,v10,v11,v12,v13,v14,v15,hll⟩:=Xvv hl
 have hrow:row l= #[.int .u32 v0,.int .u32 v1,.int .u32 v2,.int .u32 v3,.int .u32 v4,.int .u32 v5,.int .u32 v6,.int .u32 v7,.int .u32 v8,.int .u32 v9,.int .u32 v10,.int .u32 v11,.int .u32 v12,.int .u32 v13,.int .u32 v14,.int .u32 v15]:=by rw [hll];rfl
 have Hll:=Qh hll
 have Hrow:=Qh hrow
 have Hlen:=Qh hl
 clear hll hrow hl
 rw [Hrow.out]
 go_enter Tryz.func156,Tryz.ntmps156
 go_wp2_with fail
 rw [←Hrow.out]
 rw [show (#[.int .u32 0,.int .u32 0,.int .u32 0,.int .u32 0,.int .u32 0,.int .u32 0,.int .u32 0,.int .u32 0,.int .u32 0,.int .u32 0,.int .u32 0,.int .u32 0,.int .u32 0,.int .u32 0,.int .u32 0,.int .u32 0]:Array Value)=row (List.replicate 16 0) from rfl]
 generalize (w.alloc (.cells (row l) 173)).alloc (.cells (row (List.replicate 16 0)) 173)=X at HM ⊢
 clear Hrow Hll
 have g1:=cell_regrown (HM.out.ca Hap.out)
 have g2:=cell_regrown (HM.out.cb Hap.out)
 refine Xae 11 (by kernel_rfl) (by kernel_rfl) ?_
 simp only [List.take_succ_cons,List.take_zero,List.drop_succ_cons,List.drop_zero]
 repeat (go_big_quiet_step ((fail)))
 refine wpQuiet_nil ?_
 intro X1 hwq
 have hbt:Below (X).heap.size (X) X1:=by
  obtain ⟨pq,rfl⟩:=hwq
  exact below_regrown _ _ _
 clear hwq
 have hMt:=HM.out.pass hbt
 clear g1 g2 hbt HM
 have HM:=Qh hMt
 have g1:=hMt.ca Hap.out
 have g2:=fun q=>hMt.fr q
 clear hMt
 go_wp2_with fail
 have hMt:=HM.out.pa Hap.out ((va+vb+x)%4294967296)
 clear HM g1 g2
 obtain ⟨a1,ha1⟩:∃a1,(va+vb+x)%4294967296=a1:=⟨_,rfl⟩
 rw [ha1] at hMt ⊢
 have Ha1:=Qh ha1
 clear ha1
 have HM:=Qh hMt
 clear hMt
 generalize X1.setCell _ _=X at HM ⊢
 have g1:=cell_regrown (HM.out.cd Hap.out)
 have g2:=cell_regrown (HM.out.ca Hap.out)
 refine Xae 10 (by kernel_rfl) (by kernel_rfl) ?_
 simp only [List.take_succ_cons,List.take_zero,List.drop_succ_cons,List.drop_zero]
 repeat (go_big_quiet_step ((exact Calls.regrown_of (Xby _ _ _ _ Xun _))))
 refine wpQuiet_nil ?_
 intro X1 hwq
 have hbt:Below (X).heap.size (X) X1:=by
  obtain ⟨pq,rfl⟩:=hwq
  exact below_regrown _ _ _
 clear hwq
 have hMt:=HM.out.pass hbt
 clear g1 g2 hbt HM
 have HM:=Qh hMt
 have g1:=hMt.cd Hap.out
 have g2:=fun q=>hMt.fr q
 clear hMt
 go_wp2_with fail
 have hMt:=HM.out.pd Hap.out (rotr 65536 65536 (bits .xor .u32 vd a1))
 clear HM g1 g2
 obtain ⟨d1,hd1⟩:∃d1,rotr 65536 65536 (bits .xor .u32 vd a1)=d1:=⟨_,rfl⟩
 rw [hd1] at hMt ⊢
 have Hd1:=Qh hd1
 clear hd1
 have HM:=Qh hMt
 clear hMt
 generalize X1.setCell _ _=X at HM ⊢
 have g1:=cell_regrown (HM.out.cc Hap.out)
 have g2:=cell_regrown (HM.out.cd Hap.out)
 refine Xae 9 (by kernel_rfl) (by kernel_rfl) ?_
 simp only [List.take_succ_cons,List.take_zero,List.drop_succ_cons,List.drop_zero]
 repeat (go_big_quiet_step ((fail)))
 refine wpQuiet_nil ?_
 intro X1 hwq
 have hbt:Below (X).heap.size (X) X1:=by
  obtain ⟨pq,rfl⟩:=hwq
  exact below_regrown _ _ _
 clear hwq
 have hMt:=HM.out.pass hbt
 clear g1 g2 hbt HM
 have HM:=Qh hMt
 have g1:=hMt.cc Hap.out
 have g2:=fun q=>hMt.fr q
 clear hMt
 go_wp2_with fail
 have hMt:=HM.out.pc Hap.out ((vc+d1)%4294967296)
 clear HM g1 g2
 obtain ⟨c1,hc1⟩:∃c1,(vc+d1)%4294967296=c1:=⟨_,rfl⟩
 rw [hc1] at hMt ⊢
 have Hc1:=Qh hc1
 clear hc1
 have HM:=Qh hMt
 clear hMt
 generalize X1.setCell _ _=X at HM ⊢
 have g1:=cell_regrown (HM.out.cb Hap.out)
 have g2:=cell_regrown (HM.out.cc Hap.out)
 refine Xae 10 (by kernel_rfl) (by kernel_rfl) ?_
 simp only [List.take_succ_cons,List.take_zero,List.drop_succ_cons,List.drop_zero]
 repeat (go_big_quiet_step ((exact Calls.regrown_of (Xby _ _ _ _ Xuo _))))
 refine wpQuiet_nil ?_
 intro X1 hwq
 have hbt:Below (X).heap.size (X) X1:=by
  obtain ⟨pq,rfl⟩:=hwq
  exact below_regrown _ _ _
 clear hwq
 have hMt:=HM.out.pass hbt
 clear g1 g2 hbt HM
 have HM:=Qh hMt
 have g1:=hMt.cb Hap.out
 have g2:=fun q=>hMt.fr q
 clear hMt
 go_wp2_with fail
 have hMt:=HM.out.pb Hap.out (rotr 4096 1048576 (bits .xor .u32 vb c1))
 clear HM g1 g2
 obtain ⟨b1,hb1⟩:∃b1,rotr 4096 1048576 (bits .xor .u32 vb c1)=b1:=⟨_,rfl⟩
 rw [hb1] at hMt ⊢
 have Hb1:=Qh hb1
 clear hb1
 have HM:=Qh hMt
 clear hMt
 generalize X1.setCell _ _=X at HM ⊢
 have g1:=cell_regrown (HM.out.ca Hap.out)
 have g2:=cell_regrown (HM.out.cb Hap.out)
 refine Xae 11 (by kernel_rfl) (by kernel_rfl) ?_
 simp only [List.take_succ_cons,List.take_zero,List.drop_succ_cons,List.drop_zero]
 repeat (go_big_quiet_step ((fail)))
 refine wpQuiet_nil ?_
 intro X1 hwq
 have hbt:Below (X).heap.size (X) X1:=by
  obtain ⟨pq,rfl⟩:=hwq
  exact below_regrown _ _ _
 clear hwq
 have hMt:=HM.out.pass hbt
 clear g1 g2 hbt HM
 have HM:=Qh hMt
 have g1:=hMt.ca Hap.out
 have g2:=fun q=>hMt.fr q
 clear hMt
 go_wp2_with fail
 have hMt:=HM.out.pa Hap.out ((a1+b1+y)%4294967296)
 clear HM g1 g2
 obtain ⟨a2,ha2⟩:∃a2,(a1+b1+y)%4294967296=a2:=⟨_,rfl⟩
 rw [ha2] at hMt ⊢
 have Ha2:=Qh ha2
 clear ha2
 have HM:=Qh hMt
 clear hMt
 generalize X1.setCell _ _=X at HM ⊢
 have g1:=cell_regrown (HM.out.cd Hap.out)
 have g2:=cell_regrown (HM.out.ca Hap.out)
 refine Xae 10 (by kernel_rfl) (by kernel_rfl) ?_
 simp only [List.take_succ_cons,List.take_zero,List.drop_succ_cons,List.drop_zero]
 repeat (go_big_quiet_step ((exact Calls.regrown_of (Xby _ _ _ _ Xvq _))))
 refine wpQuiet_nil ?_
 intro X1 hwq
 have hbt:Below (X).heap.size (X) X1:=by
  obtain ⟨pq,rfl⟩:=hwq
  exact below_regrown _ _ _
 clear hwq
 have hMt:=HM.out.pass hbt
 clear g1 g2 hbt HM
 have HM:=Qh hMt
 have g1:=hMt.cd Hap.out
 have g2:=fun q=>hMt.fr q
 clear hMt
 go_wp2_with fail
 have hMt:=HM.out.pd Hap.out (rotr 256 16777216 (bits .xor .u32 d1 a2))
 clear HM g1 g2
 obtain ⟨d2,hd2⟩:∃d2,rotr 256 16777216 (bits .xor .u32 d1 a2)=d2:=⟨_,rfl⟩
 rw [hd2] at hMt ⊢
 have Hd2:=Qh hd2
 clear hd2
 have HM:=Qh hMt
 clear hMt
 generalize X1.setCell _ _=X at HM ⊢
 have g1:=cell_regrown (HM.out.cc Hap.out)
 have g2:=cell_regrown (HM.out.cd Hap.out)
 refine Xae 9 (by kernel_rfl) (by kernel_rfl) ?_
 simp only [List.take_succ_cons,List.take_zero,List.drop_succ_cons,List.drop_zero]
 repeat (go_big_quiet_step ((fail)))
 refine wpQuiet_nil ?_
 intro X1 hwq
 have hbt:Below (X).heap.size (X) X1:=by
  obtain ⟨pq,rfl⟩:=hwq
  exact below_regrown _ _ _
 clear hwq
 have hMt:=HM.out.pass hbt
 clear g1 g2 hbt HM
 have HM:=Qh hMt
 have g1:=hMt.cc Hap.out
 have g2:=fun q=>hMt.fr q
 clear hMt
 go_wp2_with fail
 have hMt:=HM.out.pc Hap.out ((c1+d2)%4294967296)
 clear HM g1 g2
 obtain ⟨c2,hc2⟩:∃c2,(c1+d2)%4294967296=c2:=⟨_,rfl⟩
 rw [hc2] at hMt ⊢
 have Hc2:=Qh hc2
 clear hc2
 have HM:=Qh hMt
 clear hMt
 generalize X1.setCell _ _=X at HM ⊢
 have g1:=cell_regrown (HM.out.cb Hap.out)
 have g2:=cell_regrown (HM.out.cc Hap.out)
 refine Xae 10 (by kernel_rfl) (by kernel_rfl) ?_
 simp only [List.take_succ_cons,List.take_zero,List.drop_succ_cons,List.drop_zero]
 repeat (go_big_quiet_step ((exact Calls.regrown_of (Xby _ _ _ _ Xvr _))))
 refine wpQuiet_nil ?_
 intro X1 hwq
 have hbt:Below (X).heap.size (X) X1:=by
  obtain ⟨pq,rfl⟩:=hwq
  exact below_regrown _ _ _
 clear hwq
 have hMt:=HM.out.pass hbt
 clear g1 g2 hbt HM
 have HM:=Qh hMt
 have g1:=hMt.cb Hap.out
 have g2:=fun q=>hMt.fr q
 clear hMt
 have hMt:=HM.out.pb Hap.out (rotr 128 33554432 (bits .xor .u32 b1 c2))
 have hfin:mixP l qa qb qc qd x y=four l qa qb qc qd a2 (rotr 128 33554432 (bits .xor .u32 b1 c2)) c2 d2:=by
  rw [Hm.out]
  simp only [mixW,←Int.add_assoc,Ha1.out,Hd1.out,Hc1.out,Hb1.out,Ha2.out,Hd2.out,Hc2.out]
 clear Ha1 Hd1 Hc1 Hb1 Ha2 Hd2 Hc2 Hm
 have h0:=hMt.row_
 have h1:=hMt.zero
 have hbw:=hMt.below
 have hlen:(four l qa qb qc qd a2 (rotr 128 33554432 (bits .xor .u32 b1 c2)) c2 d2).length=16:=by rw [Xhz,Hlen.out]
 generalize four l qa qb qc qd a2 (rotr 128 33554432 (bits .xor .u32 b1 c2)) c2 d2=F at h0 hlen hfin
 have Hfin:=Qh hfin
 clear hfin
 clear hMt HM
 have hi16:(Tryz.prog.info? 173).map (·.size)=some (row F).size:=by rw [row_size,hlen];kernel_rfl
 have hz16:(row (List.replicate 16 0)).size=(row F).size:=by rw [row_size,row_size,hlen];rfl
 have ho16:(row F).all (·.oneCell')=true:=by simp [row,Value.oneCell']
 clear hlen
 go_wp2_with (first
  |(refine wpList_load_row rfl 173 _ rfl w.heap.size rfl 173 (row F) (0,0) _ h0 Tryz.underlying173 rfl hi16 ?_)
  |(refine wpList_store_row rfl 173 _ _ rfl (w.heap.size+1) (row F) rfl rfl 173 (row (List.replicate 16 0)) h1 hi16 hz16 ho16 ?_))
 refine bodyPost_ret (results_cell_row rfl _ _ (w.heap.size+1) _ (row F) (0,0) _ rfl (setRow_heap _ _ _ _ _ _ h1) Tryz.underlying173 rfl hi16) rfl ⟨by rw [Hfin.out],below_setRow hbw (by omega) _⟩
theorem Xg0 (a b c:Int):bits .xor .u32 (bits .xor .u32 a b) c=bits .xor .u32 a (bits .xor .u32 b c):=by
 have hr:∀x:BitVec 32,BitVec.ofInt 32 (x.toNat:Int)=x:=fun x=>by
  apply BitVec.eq_of_toNat_eq
  simp
 have hb:∀x y:Int,bits .xor .u32 x y=((BitVec.ofInt 32 x ^^^ BitVec.ofInt 32 y).toNat:Int):=fun x y=>by
  have:=(BitVec.ofInt 32 x ^^^ BitVec.ofInt 32 y).isLt
  simp only [bits,IntKind.wrap,IntKind.bits,IntKind.signed]
  exact Int.emod_eq_of_lt (by omega) (by omega)
 rw [hb,hb a b,hb a,hb b c,hr,hr,BitVec.xor_assoc]
theorem Xq9 (a:Int) (h0:0≤a) (h1:a<4294967296):bits .or .u32 0 a=a:=by
 have hb:bits .or .u32 0 a=((BitVec.ofInt 32 0 ||| BitVec.ofInt 32 a).toNat:Int):=by
  have:=(BitVec.ofInt 32 0 ||| BitVec.ofInt 32 a).isLt
  simp only [bits,IntKind.wrap,IntKind.bits,IntKind.signed]
  exact Int.emod_eq_of_lt (by omega) (by omega)
 rw [hb]
 simp
 omega
def pW (s:Bytes) (j:Nat):Nat→Int
 |0=>0
 |1=>byteI s (4*j)
 |2=>bits .or .u32 (byteI s (4*j)) (byteI s (4*j+1)*256%4294967296)
 |3=>bits .or .u32 (bits .or .u32 (byteI s (4*j)) (byteI s (4*j+1)*256%4294967296)) (byteI s (4*j+2)*65536%4294967296)
 |_=>wordAt s j
def refW (s:Bytes) (k:Nat):List Int:=(List.range 16).map fun j=>pW s j (k-4*j)
theorem Xmz (s:Bytes) (k:Nat):(refW s k).length=16:=by simp [refW]
theorem Xqu (s:Bytes):refW s 0=List.replicate 16 0:=by
 simp [refW,pW,List.map_const']
theorem Xnd (s:Bytes) (j n:Nat) (h:4≤n):pW s j n=wordAt s j:=by
 match n,h with
 |n+4,_=>rfl
theorem Xtb (s:Bytes):refW s 64=words s:=by
 apply List.map_congr_left
 intro j hj
 have:=List.mem_range.1 hj
 exact Xnd s j _ (by omega)
theorem Xup (s:Bytes) (q r:Nat) (hq:q<16) (_hr:r<4):(refW s (4*q+r)).getD q 0=pW s q r:=by
 simp [refW,List.getD,hq]
theorem Xqv (s:Bytes) (q r:Nat) (_hq:q<16) (hr:r<4):(refW s (4*q+r)).set q (pW s q (r+1))=refW s (4*q+r+1):=by
 apply List.ext_getElem
 ·simp [refW]
 ·intro j h1 h2
  simp only [refW,List.getElem_set,List.getElem_map,List.getElem_range]
  by_cases h:q=j
  ·subst h
   rw [if_pos rfl,show 4*q+r+1-4*q=r+1 by omega]
  ·rw [if_neg h]
   rcases Nat.lt_or_ge j q with hj|hj
   ·rw [Xnd s j _ (by omega),Xnd s j _ (by omega)]
   ·rw [show 4*q+r-4*j=0 by omega,show 4*q+r+1-4*j=0 by omega]
theorem Xia (s:Bytes) (i:Nat):0≤byteI s i∧byteI s i<4294967296:=by unfold byteI;omega
theorem Xfi (s:Bytes) (k:Nat) (h:k<s.length):(s[k].toNat:Int)%4294967296=byteI s k:=by simp [byteI,h]
theorem pW_0 (s:Bytes) (q k:Nat) (hk:k=4*q+0) (h:k<s.length):bits .or .u32 (pW s q 0) ((s[k].toNat:Int)%4294967296)=pW s q 1:=by
 rw [Xfi s k h,hk]
 exact Xq9 _ (Xia _ _).1 (Xia _ _).2
theorem pW_1 (s:Bytes) (q k:Nat) (hk:k=4*q+1) (h:k<s.length):bits .or .u32 (pW s q 1) ((s[k].toNat:Int)%4294967296*256%4294967296)=pW s q 2:=by
 rw [Xfi s k h,hk];rfl
theorem pW_2 (s:Bytes) (q k:Nat) (hk:k=4*q+2) (h:k<s.length):bits .or .u32 (pW s q 2) ((s[k].toNat:Int)%4294967296*65536%4294967296)=pW s q 3:=by
 rw [Xfi s k h,hk];rfl
theorem pW_3 (s:Bytes) (q k:Nat) (hk:k=4*q+3) (h:k<s.length):bits .or .u32 (pW s q 3) ((s[k].toNat:Int)%4294967296*16777216%4294967296)=pW s q 4:=by
 rw [Xfi s k h,hk];rfl
def vFill (hs:List Int) (k:Nat):List Int:=(List.range 16).map fun j=>if j<8 then (if j<k then hs.getD j 0 else 0) else (if j-8<k then blkIV.getD (j-8) 0 else 0)
theorem Xf1 (hs:List Int) (k:Nat):(vFill hs k).length=16:=by simp [vFill]
theorem Xo1 (hs:List Int):vFill hs 0=List.replicate 16 0:=by simp [vFill,List.map_const']
theorem Xo2 (hs:List Int) (k:Nat) (hk:k<8):((vFill hs k).set k (hs.getD k 0)).set (k+8) (blkIV.getD k 0)=vFill hs (k+1):=by
 apply List.ext_getElem
 ·simp [vFill]
 ·intro j h1 h2
  simp only [vFill,List.getElem_set,List.getElem_map,List.getElem_range]
  by_cases h:k+8=j
  ·subst h
   rw [if_pos rfl,if_neg (by omega),if_pos (by omega),show k+8-8=k by omega]
  ·rw [if_neg h]
   by_cases h':k=j
   ·subst h'
    rw [if_pos rfl,if_pos hk,if_pos (by omega)]
   ·rw [if_neg h']
    by_cases hj:j<8
    ·rw [if_pos hj,if_pos hj]
     by_cases hjk:j<k
     ·rw [if_pos hjk,if_pos (by omega)]
     ·rw [if_neg hjk,if_neg (by omega)]
    ·rw [if_neg hj,if_neg hj]
     by_cases hjk:j-8<k
     ·rw [if_pos hjk,if_pos (by omega)]
     ·rw [if_neg hjk,if_neg (by omega)]
theorem Xqh (hs:List Int) (h:hs.length=8):vFill hs 8=hs++blkIV:=by
 obtain ⟨a,b,c,d,e,f,g,i,rfl⟩:=Xnf h
 rfl
def refPerms:List Bytes:= [[48,49,50,51,52,53,54,55,56,57,97,98,99,100,101,102],[101,97,52,56,57,102,100,54,49,99,48,50,98,55,53,51],[98,56,99,48,53,50,102,100,97,101,51,54,55,49,57,52],[55,57,51,49,100,99,98,101,50,54,53,97,52,48,102,56],[57,48,53,55,50,52,97,102,101,49,98,99,54,56,51,100],[50,99,54,97,48,98,56,51,52,100,55,53,102,101,49,57],[99,53,49,102,101,100,52,97,48,55,54,51,57,50,56,98],[100,98,55,101,99,49,51,57,53,48,102,52,56,54,50,97],[54,102,101,57,98,51,48,56,99,50,100,55,49,52,97,53],[97,50,56,52,55,54,49,53,102,98,57,101,51,99,100,48]]
def refPerm (r:Nat):Bytes:=refPerms.getD r []
def digitP (c:Nat):Nat:=if 97≤c then c-87 else c-48
theorem Xed (r:Nat) (h:r<10):(refPerm r).length=16:=by revert r;decide
theorem Xl8 (r i:Nat) (hr:r<10) (hi:i<16):digitP ((refPerm r).getD i 0).toNat=sigma r i∧48≤((refPerm r).getD i 0).toNat∧((refPerm r).getD i 0).toNat≤102:=by
 revert i;revert r;decide
set_option maxRecDepth 100000 in
theorem Xct (r:Nat) (hr:r<10) (w:World):Calls Tryz.prog 154 #[.int .i64 r] w fun e w'=>e= .returned (S (refPerm r))∧Below w.heap.size w w':=by
 match r,hr with
 |0,_=>go_enter Tryz.func154,Tryz.ntmps154;go_wp2;go_ret;exact ⟨rfl,Qb _ _⟩
 |1,_=>go_enter Tryz.func154,Tryz.ntmps154;go_wp2;go_ret;exact ⟨rfl,Qb _ _⟩
 |2,_=>go_enter Tryz.func154,Tryz.ntmps154;go_wp2;go_ret;exact ⟨rfl,Qb _ _⟩
 |3,_=>go_enter Tryz.func154,Tryz.ntmps154;go_wp2;go_ret;exact ⟨rfl,Qb _ _⟩
 |4,_=>go_enter Tryz.func154,Tryz.ntmps154;go_wp2;go_ret;exact ⟨rfl,Qb _ _⟩
 |5,_=>go_enter Tryz.func154,Tryz.ntmps154;go_wp2;go_ret;exact ⟨rfl,Qb _ _⟩
 |6,_=>go_enter Tryz.func154,Tryz.ntmps154;go_wp2;go_ret;exact ⟨rfl,Qb _ _⟩
 |7,_=>go_enter Tryz.func154,Tryz.ntmps154;go_wp2;go_ret;exact ⟨rfl,Qb _ _⟩
 |8,_=>go_enter Tryz.func154,Tryz.ntmps154;go_wp2;go_ret;exact ⟨rfl,Qb _ _⟩
 |9,_=>go_enter Tryz.func154,Tryz.ntmps154;go_wp2;go_ret;exact ⟨rfl,Qb _ _⟩
set_option maxRecDepth 100000 in
theorem Xc5 (c:Nat) (h0:48≤c) (h1:c≤102) (w:World):Calls Tryz.prog 157 #[.int .u8 c] w fun e w'=>e= .returned (.int .i64 (digitP c:Nat))∧Below w.heap.size w w':=by
 have hw1:IntKind.i64.wrap (c:Int)=c:=IntWalk.i64_in _ (by omega)
 by_cases h:97≤c
 ·have hd:decide (97≤(c:Int))=true:=by simp;omega
  have Hp:=Qh (show (digitP c:Int)=(c:Int)-87 by rw [digitP,if_pos h];omega)
  go_enter Tryz.func157,Tryz.ntmps157
  go_wp2
  go_ret
  exact ⟨Xac Hp.out.symm,Qb _ _⟩
 ·have hd:decide (97≤(c:Int))=false:=by simp;omega
  have Hp:=Qh (show (digitP c:Int)=(c:Int)-48 by rw [digitP,if_neg h];omega)
  go_enter Tryz.func157,Tryz.ntmps157
  go_wp2
  go_ret
  exact ⟨Xac Hp.out.symm,Qb _ _⟩
set_option maxRecDepth 100000 in
theorem Xe4 (w:World):Calls Tryz.prog 113 #[] w fun e w'=>e= .returned (.agg (row blkIV))∧Below w.heap.size w w':=by
 go_enter Tryz.func113,Tryz.ntmps113
 go_wp2
 refine bodyPost_ret (results_cell_row rfl _ _ w.heap.size _ (row blkIV) (0,0) _ rfl (heap_alloc_new w (.cells (row blkIV) 130)) Tryz.underlying130 rfl (by kernel_rfl)) rfl ⟨rfl,?_⟩
 exact (Qb _ _).alloc (Qn _) _
def quadZ:Array Value:= #[.int .i64 0,.int .i64 0,.int .i64 0,.int .i64 0]
theorem Xpj (k:Nat) (h:k<4):quad k=(k,k+4,k+8,k+12):=by revert k;decide
theorem Xpk (k:Nat) (h:k<4):quad (k+4)=(k,4+(k+1)%4,8+(k+2)%4,12+(k+3)%4):=by revert k;decide
set_option maxRecDepth 100000 in
set_option maxHeartbeats 400000 in
theorem Xe3 (k:Nat) (hk:k<8) (w:World):Calls Tryz.prog 155 #[.int .i64 k] w fun e w'=>e= .returned (quadV (quad k))∧Below w.heap.size w w':=by
 by_cases h:k<4
 ·have Hq:=Qh (Xpj k h)
  have hz:=heap_alloc_new w (.cells quadZ 177)
  have hi4:(Tryz.prog.info? 177).map (·.size)=some (#[.int .i64 k,.int .i64 ((k:Int)+4),.int .i64 ((k:Int)+8),.int .i64 ((k:Int)+12)]:Array Value).size:=by kernel_rfl
  have ho4:(#[.int .i64 k,.int .i64 ((k:Int)+4),.int .i64 ((k:Int)+8),.int .i64 ((k:Int)+12)]:Array Value).all (·.oneCell')=true:=by simp [Value.oneCell']
  go_enter Tryz.func155,Tryz.ntmps155
  go_wp2_with (refine wpList_store_row rfl 177 _ _ rfl w.heap.size #[.int .i64 k,.int .i64 ((k:Int)+4),.int .i64 ((k:Int)+8),.int .i64 ((k:Int)+12)] rfl rfl 177 quadZ hz hi4 rfl ho4 ?_)
  refine bodyPost_ret (results_cell_row rfl _ _ w.heap.size _ #[.int .i64 k,.int .i64 ((k:Int)+4),.int .i64 ((k:Int)+8),.int .i64 ((k:Int)+12)] (0,0) _ rfl (setRow_heap _ _ _ _ _ _ hz) Tryz.underlying177 rfl hi4) rfl ⟨by rw [Hq.out];rfl,below_setRow ((Qb _ _).alloc (Qn _) _) (Qn _) _⟩
 ·obtain ⟨q,rfl⟩:∃q,k=q+4:=⟨k-4,by omega⟩
  have Hq:=Qh (Xpk q (by omega))
  have hz:=heap_alloc_new w (.cells quadZ 177)
  have hs:((q+4:Nat):Int)=(q:Int)+4:=by omega
  rw [hs]
  clear hs
  have hi4:(Tryz.prog.info? 177).map (·.size)=some (#[.int .i64 q,.int .i64 (4+((q:Int)+1)%4),.int .i64 (8+((q:Int)+2)%4),.int .i64 (12+((q:Int)+3)%4)]:Array Value).size:=by kernel_rfl
  have ho4:(#[.int .i64 q,.int .i64 (4+((q:Int)+1)%4),.int .i64 (8+((q:Int)+2)%4),.int .i64 (12+((q:Int)+3)%4)]:Array Value).all (·.oneCell')=true:=by simp [Value.oneCell']
  go_enter Tryz.func155,Tryz.ntmps155
  go_wp2_with (refine wpList_store_row rfl 177 _ _ rfl w.heap.size #[.int .i64 q,.int .i64 (4+((q:Int)+1)%4),.int .i64 (8+((q:Int)+2)%4),.int .i64 (12+((q:Int)+3)%4)] rfl rfl 177 quadZ hz hi4 rfl ho4 ?_)
  refine bodyPost_ret (results_cell_row rfl _ _ w.heap.size _ #[.int .i64 q,.int .i64 (4+((q:Int)+1)%4),.int .i64 (8+((q:Int)+2)%4),.int .i64 (12+((q:Int)+3)%4)] (0,0) _ rfl (setRow_heap _ _ _ _ _ _ hz) Tryz.underlying177 rfl hi4) rfl ⟨by rw [Hq.out];rfl,below_setRow ((Qb _ _).alloc (Qn _) _) (Qn _) _⟩
end Go.Proofs.YtdeknddamidldaaGreatDoor
