/- Lemmas for the claim's theorem;conditions: as each says. -/
import Derived.Test.YtmdfjnhfhidmhaaGreatDoorQ15
import Derived.Laws.MakeOwn
import Derived.RegionTactic
import Derived.Maps.AppendAt
set_option maxHeartbeats 0
set_option maxRecDepth 100000
set_option linter.all false
namespace Go.Proofs.YtmdfjnhfhidmhaaGreatDoor
open Go.RowKit
variable{s:Array Bool}{i:Nat}{a:Act}{w:World}{v:Value}{B n:Nat}{ops:Array Oper}{P:Program}{x:aQ}{L:List (Option Tmp×Value)}{I:IH}{e:aQ}{k id:Nat}{d:Option Tmp}{t:Tmp}{a':Act}{Q:Exit→Act→World→Prop}{α:Type}{l:List α}{vx:Value}{ty:TypeId}{g:Nat}{M:List (Option Tmp×Value)}{X:Type}{T:Ty α}{ts te:TypeId}{bytes:Nat}{ys:List α}{b:Nat}
def pQ:List Int:=[bits .xor .u32 1779033703 16842784,3144134277,1013904242,2773480762,1359893119,2600822924,528734635,1541459225]
def hAt(s:af):Nat→List Int
 |0=>pQ
 |i+1=>fH (hAt s i) ((s.drop (64*i)).take 64) ((64*i+64:Nat):Int) false
theorem XM(s:af):∀i,(hAt s i).length=8
 |0=>rfl
 |_+1=>NI ..
def nV(s:af):Nat:=(s.length-1) / 64
def jM(s:af):List Int:=fH (hAt s (nV s)) (s.drop (64*nV s)++List.replicate (64-(s.length-64*nV s)) 0) (s.length:Int) true
def tB:Ty Int:=Ty.flat 1 (fun x=> [.int .u8 x]) (fun _=>rfl) (fun _ u h=>by simp at h;subst h;rfl)
def gI(x:Int):List Int:=[x%256,x / 256%256,x / 65536%256,x / 16777216%256]
def ku(G:List Int)(k:Nat):List Int:=(G.take k).flatMap gI
theorem Xmb(G:List Int)(k:Nat)(hk:k<G.length):ku G (k+1)=ku G k++gI (G.getD k 0):=by
 rw[ku,ku,List.take_succ_eq_append_getElem hk,List.flatMap_append];simp[List.getD,List.getElem?_eq_getElem hk]
theorem XN(G:List Int):∀k,(ku G k).length≤4*k:=by
 intro k;have:∀L:List Int,(L.flatMap gI).length=4*L.length:=by
  intro L;induction L with
  |nil=>rfl
  |cons x L ih=>rw[List.flatMap_cons,List.length_append,ih];simp[gI];omega
 rw[ku,this];simp;omega
theorem Xgd(I:IH)(x:Int):bB tB I [.int .u8 (x%256),.int .u8 (x / 256%256),.int .u8 (x / 65536%256),.int .u8 (x / 16777216%256)] (gI x):=
 (((bB.one (T:=tB) (I:=I) (x:=x%256) (cs:=[.int .u8 (x%256)]) rfl).append (bB.one (T:=tB) (x:=x / 256%256) (cs:=[.int .u8 (x / 256%256)]) rfl)).append (bB.one (T:=tB) (x:=x / 65536%256) (cs:=[.int .u8 (x / 65536%256)]) rfl)).append (bB.one (T:=tB) (x:=x / 16777216%256) (cs:=[.int .u8 (x / 16777216%256)]) rfl)
theorem Xpc{xs:List Value}{l:List Int}(h:bB tB I xs l)(j:Nat)(hj:j<l.length):xs[j]?=some (.int .u8 l[j]):=by
 obtain⟨cs,h1,h2⟩:=h.2 j hj;have e:cs=[.int .u8 l[j]]:=h1;subst e;have:=h2 0 _ rfl;rw[show j*tB.size+0=j by show j*1+0=j;omega]at this;exact this
theorem XO:∀(l:List Int) (a:ByteArray),List.foldl (fun r n=>r.push (UInt8.ofNat n.toNat)) a l=⟨a.data++(l.map fun x=>UInt8.ofNat x.toNat).toArray⟩
 | [],a=>by simp
 |x::l,a=>by
  rw[List.foldl_cons,XO l];apply ByteArray.ext;simp[ByteArray.push]
theorem Xpx(l:List Int):List.foldl (fun r n=>r.push (UInt8.ofNat n.toNat)) ByteArray.empty l=⟨(l.map fun x=>UInt8.ofNat x.toNat).toArray⟩:=by
 rw[XO];apply ByteArray.ext;show(#[]:Array UInt8)++_=_;simp
theorem XP{E src dst e:TypeId}{l:List Int}(hs:P.underlying src=some (.slice e))(he:P.underlying e=some (.int .u8))(hd:P.underlying dst=some .string)(W:World)(h:aN tB E I W B v l)(hl:0<l.length):
 (convert src dst v).run P W= .ok (S (l.map fun x=>UInt8.ofNat x.toNat)) W:=by
 obtain⟨xs,⟨_,nJ⟩,hL⟩:=h;rcases nJ with⟨_,h0⟩|⟨g,cap,cur,rfl,_,hg,_,_,_,ht⟩
 ·omega
 ·rw[run_convert_bytes_string _ _ _ e _ _ _ hs he hd,run_bytesToString (ns:=l)]
  ·rw[Xpx]
  ·have hc:=run_loadCells_list (P:=P) W ⟨g,0,none⟩ (l.map fun x=>Value.int .u8 x) (fun j u hu=>by
    have hj:j<l.length:=by simpa using(List.getElem?_eq_some_iff.1 hu).1
    rw[Addr.add_lit,Nat.zero_add,cell_of_row _ _ _ _ _ _ hg];have h1:=Xpc hL j hj;rw[←ht,List.getElem?_take]at h1;split at h1
    ·rw[←Array.getElem?_toList,h1];simpa[hj]using hu
    ·cases h1)
   simpa using hc
def dA(s:af):af:=(ku (jM s) 8).map fun x=>UInt8.ofNat x.toNat
theorem NN:(Tryz.prog.info? 5).map (fun i=>(i.zero,i.size,i.bytes))=some (some (.int .u8 0),1,1):=by kernel_rfl
theorem Xqr:∃ZZ:Array Value,ZZ.size=32∧ ∀W,(Instr.makeSlice 93 (.int .i64 0) (.int .i64 32)).run Tryz.prog W= .ok (.slice (some ⟨W.heap.size,0,none⟩) 0 32) (W.alloc (.cells ZZ 5)):=by
 obtain⟨i,h1,h2,h3,h4⟩:=info_parts NN;refine⟨madeCells (Value.int .u8 0).cells (32*i.size),by rw[size_madeCells,h3],fun W=> ?_⟩;exact run_make (P:=Tryz.prog) W 93 5 i _ Tryz.underlying93 h1 h2 .i64 .i64 0 32 (by omega) (by omega) (by rw[h4];omega) (by omega)
theorem Xrf:dx Tryz.prog 93 5 tB 1:=dx.of Tryz.underlying93 NN rfl (by decide) rfl
theorem XQ(b off cap:Nat)(l:List af)(s:af)(hl:l.flatten=s)(hs:s.length≤140737488355328)(w:World)(hc:∀(j:Nat) x,l[j]?=some x→w.cell? ⟨b,off+j,none⟩=some (S x))(dM:l.length≤cap)(yl:b<w.heap.size)(hn:l.length≤1000000):
 Calls Tryz.prog 110 #[.slice (some ⟨b,off,none⟩) l.length cap] w fun e w'=>e= .returned (S (dA s))∧Below w.heap.size w w':=by
 have Hj:=Qh (Xnz b off cap l w hc dM yl hn (by rw[hl];exact hs));rw[hl]at Hj;clear hc hl dM hn yl;go_enter Tryz.func110,Tryz.ntmps110
 go_wp2_with fail
 refine Hj.q.mono ?_;rintro e w0 ⟨rfl,Bl⟩;clear Hj;go_wp2_with fail
 refine(XF _).mono ?_;rintro e w1 ⟨rfl,Kg⟩;have aG:=Bl.trans (Kg.mono Bl.size);clear Bl Kg;rw[show row fA=#[.int .u32 1779033703,.int .u32 3144134277,.int .u32 1013904242,.int .u32 2773480762,.int .u32 1359893119,.int .u32 2600822924,.int .u32 528734635,.int .u32 1541459225]from rfl];go_wp2_with fail
 obtain⟨B,AO⟩:∃B,w1.heap.size=B:=⟨_,rfl⟩;have vz:w.heap.size≤B:=by rw[←AO];exact aG.size
 have bT:=Qh (show(w1.alloc (.cells (row pQ) 206)).heap[B]?=some (.cells (row (hAt s 0)) 206 (0,0)) by rw[←AO];exact heap_alloc_new _ _);have Kh:=Qh (show Below w.heap.size w (w1.alloc (.cells (row pQ) 206))from aG.alloc aG.size _);rw[AO];clear aG AO;obtain⟨L,hL⟩:∃L,nV s=L:=⟨_,rfl⟩;have hL':L=(s.length-1) / 64:=hL.symm;have HL:=Qh hL;clear hL;go_loopw [5] (fun s5 wr=> ∃i:Nat,i≤L∧s5= .int .i64 (64*(i:Int))∧Below w.heap.size w wr∧B<wr.heap.size∧wr.heap[B]?=some (.cells (row (hAt s i)) 206 (0,0))) (fun i _=>s.length-(intOf i).toNat)
 case atStart=>exact⟨0,Nat.zero_le _,rfl,Kh.q,(by have:=bT.q;exact(Qg this)),bT.q⟩
 case round=>
  clear bT Kh;obtain⟨i,hi,rfl,hb,tH,hB⟩:=hrel;by_cases hlt:i<L
  ·have hlen:64*i+64<s.length:=by omega
   obtain⟨e0,e1,e2,e3,e4,e5,e6,e7,he⟩:=NH (XM s i);have He:=Qh he;rw[he]at hB;clear he;have d0:wr.cell? ⟨B,0,none⟩=some (.int .u32 e0):=(cell_of_row wr B 0 _ _ _ hB).trans rfl;have d1:wr.cell? ⟨B,1,none⟩=some (.int .u32 e1):=(cell_of_row wr B 1 _ _ _ hB).trans rfl;have d2:wr.cell? ⟨B,2,none⟩=some (.int .u32 e2):=(cell_of_row wr B 2 _ _ _ hB).trans rfl;have d3:wr.cell? ⟨B,3,none⟩=some (.int .u32 e3):=(cell_of_row wr B 3 _ _ _ hB).trans rfl;have d4:wr.cell? ⟨B,4,none⟩=some (.int .u32 e4):=(cell_of_row wr B 4 _ _ _ hB).trans rfl;have d5:wr.cell? ⟨B,5,none⟩=some (.int .u32 e5):=(cell_of_row wr B 5 _ _ _ hB).trans rfl;have d6:wr.cell? ⟨B,6,none⟩=some (.int .u32 e6):=(cell_of_row wr B 6 _ _ _ hB).trans rfl;have d7:wr.cell? ⟨B,7,none⟩=some (.int .u32 e7):=(cell_of_row wr B 7 _ _ _ hB).trans rfl;have z0:=frozen_of_row wr B 0 _ _ hB;have z1:=frozen_of_row wr B 1 _ _ hB;have z2:=frozen_of_row wr B 2 _ _ hB;have z3:=frozen_of_row wr B 3 _ _ hB;have z4:=frozen_of_row wr B 4 _ _ hB;have z5:=frozen_of_row wr B 5 _ _ hB;have z6:=frozen_of_row wr B 6 _ _ hB;have z7:=frozen_of_row wr B 7 _ _ hB;have HB:=Qh hB;clear hB;go_wp2_with fail
   have Ei:IntKind.i64.wrap (64*(i:Int)+64)=64*(i:Int)+64:=IntWalk.i64_in _ (by omega);have Mo:IntKind.u64.wrap (64*(i:Int)+64)=64*(i:Int)+64:=IntWalk.u64_in _ (by omega);have Ao:(0:Int)≤64*(i:Int)+64:=by omega
   have Mq:64*(i:Int)+64≤(s.length:Int):=by omega
   have GY:(0:Int)≤64*(i:Int):=by omega
   have hw6:64*(i:Int)≤64*(i:Int)+64:=by omega
   have hw7:(64*(i:Int)+64).toNat=64*i+64:=by omega
   have hw8:(64*(i:Int)).toNat=64*i:=by omega
   have hw9:64*i+64-64*i=64:=by omega
   have nO:((s.drop (64*i)).take 64).length=64:=by simp;omega
   obtain⟨c0,c1,c2,c3,c4,c5,c6,c7,hc⟩:=NH (NI [e0,e1,e2,e3,e4,e5,e6,e7] ((s.drop (64*i)).take 64) (64*(i:Int)+64) false);have Hc:=Qh hc;clear hc;go_region_law (go_simp;go_at_call 161;refine(XJ [e0,e1,e2,e3,e4,e5,e6,e7] rfl ((s.drop (64*i)).take 64) nO (64*(i:Int)+64) false _).mono ?_;rintro e w' ⟨rfl,qm⟩;rw[Hc.q,show row [c0,c1,c2,c3,c4,c5,c6,c7]=#[.int .u32 c0,.int .u32 c1,.int .u32 c2,.int .u32 c3,.int .u32 c4,.int .u32 c5,.int .u32 c6,.int .u32 c7]from rfl];have y0:w'.cell? ⟨B,0,none⟩=some (.int .u32 e0):=(qm.cell tH).trans d0;have y1:w'.cell? ⟨B,1,none⟩=some (.int .u32 e1):=(qm.cell tH).trans d1;have y2:w'.cell? ⟨B,2,none⟩=some (.int .u32 e2):=(qm.cell tH).trans d2;have y3:w'.cell? ⟨B,3,none⟩=some (.int .u32 e3):=(qm.cell tH).trans d3;have y4:w'.cell? ⟨B,4,none⟩=some (.int .u32 e4):=(qm.cell tH).trans d4;have y5:w'.cell? ⟨B,5,none⟩=some (.int .u32 e5):=(qm.cell tH).trans d5;have y6:w'.cell? ⟨B,6,none⟩=some (.int .u32 e6):=(qm.cell tH).trans d6;have y7:w'.cell? ⟨B,7,none⟩=some (.int .u32 e7):=(qm.cell tH).trans d7;have g0:w'.frozen? ⟨B,0,none⟩=false:=(qm.frozen tH).trans z0;have g1:w'.frozen? ⟨B,1,none⟩=false:=(qm.frozen tH).trans z1;have g2:w'.frozen? ⟨B,2,none⟩=false:=(qm.frozen tH).trans z2;have g3:w'.frozen? ⟨B,3,none⟩=false:=(qm.frozen tH).trans z3;have g4:w'.frozen? ⟨B,4,none⟩=false:=(qm.frozen tH).trans z4;have g5:w'.frozen? ⟨B,5,none⟩=false:=(qm.frozen tH).trans z5;have g6:w'.frozen? ⟨B,6,none⟩=false:=(qm.frozen tH).trans z6;have g7:w'.frozen? ⟨B,7,none⟩=false:=(qm.frozen tH).trans z7;have Q6:=Qh qm;clear qm)
   have Ar:=(Q6.q.block B tH).trans HB.q;have hv:=heap_setCell (i:=7) c7 (heap_setCell (i:=6) c6 (heap_setCell (i:=5) c5 (heap_setCell (i:=4) c4 (heap_setCell (i:=3) c3 (heap_setCell (i:=2) c2 (heap_setCell (i:=1) c1 (heap_setCell (i:=0) c0 (Ar))))))));have bQ:Below w.heap.size w w':=hb.drew.trans (Q6.q.mono hb.size);have Q7:=Below.setCell (Below.setCell (Below.setCell (Below.setCell (Below.setCell (Below.setCell (Below.setCell (Below.setCell (bQ) (p:=⟨B,0,none⟩) vz (.int .u32 c0)) (p:=⟨B,1,none⟩) vz (.int .u32 c1)) (p:=⟨B,2,none⟩) vz (.int .u32 c2)) (p:=⟨B,3,none⟩) vz (.int .u32 c3)) (p:=⟨B,4,none⟩) vz (.int .u32 c4)) (p:=⟨B,5,none⟩) vz (.int .u32 c5)) (p:=⟨B,6,none⟩) vz (.int .u32 c6)) (p:=⟨B,7,none⟩) vz (.int .u32 c7);have U6:=Q6.q.size;go_wp2;go_roundw;case rel=>exact⟨i+1,by omega,by go_num,Q7,(by simp[World.setCell];simp at U6;omega),(by rw[hAt,He.q,show((64*i+64:Nat):Int)=64*(i:Int)+64 by omega,Hc.q];exact hv)⟩
   case measure=>simp[intOf];omega
  ·have hie:i=L:=by omega
   have sS:s.length≤64*i+64:=by omega
   have hge:64*i≤s.length:=by omega
   have Ei:IntKind.i64.wrap (64-((s.length:Int)-64*(i:Int)))=64-((s.length:Int)-64*(i:Int)):=IntWalk.i64_in _ (by omega);have Mo:IntKind.i64.wrap ((s.length:Int)-64*(i:Int))=(s.length:Int)-64*(i:Int):=IntWalk.i64_in _ (by omega);have Ao:64*(i:Int)≤(s.length:Int):=by omega
   have Mq:(0:Int)≤64*(i:Int):=by omega
   have GY:(64*(i:Int)).toNat=64*i:=by omega
   obtain⟨c,afa⟩:∃c:Nat,(64:Int)-((s.length:Int)-64*(i:Int))=c:=⟨64-(s.length-64*i),by omega⟩;have hcn:c=64-(s.length-64*i):=by omega
   have HB:=Qh hB;clear hB;have Hie:=Qh (show nV s=i by rw[HL.q,hie]);have Hcn:=Qh hcn;have sP:c≤64:=by omega
   have IX:(Lib.repeatL [0] (c:Int).toNat).length≤100:=by rw[Lib.repeatL_length];simp;omega
   have U7:(Lib.repeatL [0] c).length≤100:=by rw[Lib.repeatL_length];simp;omega
   clear hie hL' hcn hlt hi;go_wp2_with fail
   refine wp_region_quiet_below (by kernel_rfl) (by kernel_rfl) ?_;repeat(go_big_quiet_step ((exact Calls.regrown_of (Xmc [0] c _ (by omega) (by omega) (by simp;omega)))))
   refine wpQuiet_nil ?_;intro w2 dD;have aP:Below (wr).heap.size (wr) w2:=by
    obtain⟨pq,rfl⟩:=dD;exact below_regrown _ _ _
   clear dD;obtain⟨PB,Q8⟩:∃PB,List.take (s.length-64*i) (List.drop (64*i) s)++Lib.repeatL [0] c=PB:=⟨_,rfl⟩;rw[Q8];have XR:=Qh (show PB=s.drop (64*i)++List.replicate (64-(s.length-64*i)) 0 by rw[←Q8,WM,List.take_of_length_le (by simp),Hcn.q]);have hPl:PB.length=64:=by rw[XR.q];simp;omega
   clear Q8 IX U7;have Ki:=XM s i;have vI:=Qh (show jM s=fH (hAt s i) PB (s.length:Int) true by rw[jM,Hie.q,XR.q]);have mG:=(aP.block B tH).trans HB.q;have fw:B<w2.heap.size:=by have:=aP.size;omega
   have MB:Below w.heap.size w w2:=hb.trans (aP.mono hb.size);generalize hAt s i=F at mG Ki vI;have BH:(Tryz.prog.info? 206).map (·.size)=some (row F).size:=by rw[fZ,Ki];kernel_rfl
   have aka:IntKind.u64.wrap (s.length:Int)=(s.length:Int):=IntWalk.u64_in _ (by omega);clear aP HB;go_wp2_with (refine wpList_load_row rfl 206 _ rfl B rfl 206 (row F) (0,0) _ mG Tryz.underlying206 rfl BH ?_)
   refine(XJ F Ki PB hPl (s.length:Int) true _).mono ?_;rintro e w3 ⟨rfl,fu⟩;rw[←vI.q];have BJ:(jM s).length=8:=NI ..;obtain⟨G,hG⟩:∃G,jM s=G:=⟨_,rfl⟩;have HG:=Qh hG;rw[hG]at BJ ⊢;clear hG;have U8:=(fu.block B fw).trans mG;have mW:B<w3.heap.size:=by have:=fu.size;omega
   have Kj:Below w.heap.size w w3:=MB.trans (fu.mono MB.size);have Kk:(Tryz.prog.info? 206).map (·.size)=some (row G).size:=by rw[fZ,BJ];kernel_rfl
   have Ke:(row F).size=(row G).size:=by rw[fZ,fZ,Ki,BJ]
   have si:(row G).all (·.oneCell')=true:=by simp[row,Value.oneCell']
   clear fu vI;go_upto_region 10 with(refine wpList_store_row rfl 206 _ _ rfl B (row G) rfl rfl 206 (row F) U8 Kk Ke si ?_)
   have U9:(w3.setRow B (row G)).heap[B]?=some (.cells (row G) 206 (0,0)):=setRow_heap _ _ _ _ _ _ U8;have BK:Below w.heap.size w (w3.setRow B (row G)):=below_setRow Kj vz _;have kU:B<(w3.setRow B (row G)).heap.size:=by simpa using mW
   generalize w3.setRow B (row G)=w4 at U9 BK kU;clear U8 Kj mW;obtain⟨ZZ,hZZ,lQ⟩:=Xqr;have NP:(w4.alloc (.cells ZZ 5)).heap[B]?=some (.cells (row G) 206 (0,0)):=(Below.heap_alloc _ _ _ kU).trans U9;go_wp2_with (refine wpList_load_row rfl 206 _ rfl B rfl 206 (row G) (0,0) _ NP Tryz.underlying206 rfl Kk ?_)
   have CO:w.heap.size≤w4.heap.size:=BK.size;have bT:=Qh (show aN tB 5 (fun _=>none) (w4.alloc (.cells ZZ 5)) w4.heap.size (.slice (some ⟨w4.heap.size,0,none⟩) 0 32) []from⟨[],World.ownsRow_made w4 ZZ 32 (Qn _) (by decide) (by rw[hZZ];rfl),bB.nil _ _⟩);have Kh:=Qh (BK.alloc CO (.cells ZZ 5));obtain⟨B0,Q9⟩:∃B0,w4.heap.size=B0:=⟨_,rfl⟩;have jR:B0≤(w4.alloc (.cells ZZ 5)).heap.size:=by simp;omega
   rw[Q9]at CO bT ⊢;clear U9 NP BK kU lQ;go_loopw [7,58] (fun s7 s58 wr=> ∃k:Nat,k≤8∧s58= .int .i64 k∧aN tB 5 (fun _=>none) wr B0 s7 (ku G k)∧Below w.heap.size w wr∧B0≤wr.heap.size) (fun _ k _=>8-(intOf k).toNat)
   case atStart=>exact⟨0,Nat.zero_le _,rfl,bT.q,Kh.q,jR⟩
   case round=>
    clear bT Kh jR;obtain⟨k,hk,rfl,bM,O4,Kl⟩:=hrel;by_cases kW:k<8
    ·have Ap:=QU (P:=Tryz.prog) Tryz.underlying206 Tryz.underlying58 rfl (by kernel_rfl) k kW (uY (l:=G) (i:=k) (by omega));have G7:=Qh (Xmb G k (by omega));have hol:=XN G k;generalize G.getD k 0=x at Ap G7;have Va:(gI x).length=4:=rfl;have jJ:=Xgd (fun _=>none) x;go_wp2_with (at_builtin;refine Xf9 (w0:=wr) Xrf rfl _ _ rfl _ _ _ rfl bM (gI x) [.int .u8 (x%256),.int .u8 (x / 256%256),.int .u8 (x / 65536%256),.int .u8 (x / 16777216%256)] _ rfl jJ (by rw[Va];omega) (by rw[Va];omega) (by rw[Va];omega) Kl ?_)
     intro v5 w5 jS qy;have dm:=Below.own O4 qy bM CO Kl;have jR:=qy.size;go_wp2;go_roundw;case rel=>exact⟨k+1,by omega,by go_num,by rw[G7.q];exact jS,dm,by omega⟩
     case measure=>simp[intOf];omega
    ·have oP:k=8:=by omega
     have Ra:=Qh (show(ku G k).map (fun x=>UInt8.ofNat x.toNat)=dA s by rw[dA,HG.q,oP]);have wm:0<(ku G k).length:=by rw[oP];match G,BJ with|_::_,_=>simp[ku,gI]
     have hcv:=XP (P:=Tryz.prog) Tryz.underlying93 Tryz.underlying5 Tryz.underlying9 _ bM wm;rw[Ra.q]at hcv;clear bM wm oP;go_wp2;go_ret;exact⟨rfl,O4⟩
structure bu where
 num:Int
 az:Int
 bq:af
 aB:List aQ
 aV:af
 sl:af
def jN(e:aQ):af:=dL (fU e.aj)++dL e.ag++vG e.au++dL e.av
def Dw(l:List Xt):af:=l.flatMap fun x=>dZ x.s++dZ x.o++dZ x.n
def uC(e:aQ):af:=dL (jN e)++dZ e.size++dL e.aI++dZ e.aD.length++Dw e.aD
def ny(s:bu):af:=dZ s.num++dZ s.az++dL s.bq++(dZ s.aV.length++dL (dA s.aV)++dZ s.aB.length)
def jY(s:bu):af:=ny s++s.aB.flatMap uC
def zD(s:bu):Int:=if s.num<1∨255<s.num∨s.az<0∨1000000000<s.az then 2 else if s.bq≠[]∧s.bq.length≠32 then 1 else 0
def sj:List aQ→Int
 | []=>0
 |e::l=>if aL e≠0 then aL e else sj l
def zF(s:bu):Int:=if zD s≠0 then zD s else if 14680064<s.aV.length∨400<s.aB.length then 6 else if sj s.aB≠0 then sj s.aB else if 2000<s.sl.length then 6 else 0
def pR(s:bu):af×Int:=if zF s≠0 then([],zF s)else(dA (jY s),0)
structure jw where
 aK:List aQ
 aC:List Ho
def nz(s:jw)(e:aQ)(d:Int):Int:=if 3<e.aj∨(dP s.aK e.ag).isSome=true then kG s.aC e.aj e.ag d else 0
def cZ(s:jw)(e:aQ)(d:Int):jw×Int:=
 if(bG s.aK e).2≠0 then(s,(bG s.aK e).2)
 else if nz s e d≠0 then(s,nz s e d)
 else if(appH s.aC e d).2≠0 then(s,(appH s.aC e d).2)
 else(⟨(bG s.aK e).1,(appH s.aC e d).1⟩,0)
def bf:jw:=⟨[],[]⟩
def iZ(s:jw)(d:Int)(l:List aQ):jw:=l.foldl (fun s e=>(cZ s e d).1) s
def bg(s:jw)(l:List bu):jw:=l.foldl (fun s x=>iZ s x.az x.aB) s
structure EU (n:Nat) (s:jw):Prop where
 aK:CZ s.aK
 aC:rU s.aC
 xP:s.aK.length≤n
 hlen:s.aC.length≤n
theorem Xrt:EU 0 bf:=⟨(VB []).1 rfl,Wd,Qn _,Qn _⟩
theorem EU.mono{m:Nat}{s:jw}(h:EU n s)(hm:n≤m):EU m s:=⟨h.aK,h.aC,Nat.le_trans h.xP hm,Nat.le_trans h.hlen hm⟩
theorem Rb{t:List aQ}(h:(bG t e).2=0):bG t e=((bG t e).1,0):=Prod.ext rfl h
theorem Xpf{s:jw}(h:EU n s)(e:aQ)(d:Int):EU (n+1) (cZ s e d).1:=by
 unfold cZ;split
 ·exact h.mono (by omega)
 ·rename_i h1;split
  ·exact h.mono (by omega)
  ·split
   ·exact h.mono (by omega)
   ·have ha:=Rb (t:=s.aK) (e:=e) (by omega);obtain⟨ry,hx⟩:=l8.1 ha;have hl:=Xr5 s.aK e;have hh:appH s.aC e d=((appH s.aC e d).1,(appH s.aC e d).2):=rfl;refine⟨Xo0 h.aK ha,Xs1 h.aC ry.C8 hh,?_,?_⟩
    ·rw[hx];have:=h.xP;show(Df s.aK e).length≤_;omega
    ·have:=Xqx hh;have:=h.hlen;show(appH s.aC e d).1.length≤_;omega
def Rc(l:List bu)(x:Xt):Bool:=x.s==0 || (decide (x.s≤l.length)&&decide (x.o+x.n≤((l[(x.s-1).toNat]?).map fun s=>(s.aV.length:Int)).getD 0))
def BL(l:List bu)(e:aQ):Bool:=e.aD.all (Rc l)
def wL(l:List bu)(d:Int):jw→List aQ→jw×Int
 |s,[]=>(s,0)
 |s,e::es=>if(cZ s e d).2≠0 then((cZ s e d).1,(cZ s e d).2)else if BL l e=false then((cZ s e d).1,2)else wL l d (cZ s e d).1 es
def uD(l:List bu):Nat→jw→af→Int→List bu→Int
 |_,_,_,_,[]=>0
 |i,s,bq,az,x::xs=>
  if(pR x).2≠0 then(pR x).2
  else if x.num≠i+1∨x.az<az then 14
  else if x.bq≠bq then 20
  else if(wL (l.take (i+1)) x.az s x.aB).2≠0 then(wL (l.take (i+1)) x.az s x.aB).2
  else uD l (i+1) (wL (l.take (i+1)) x.az s x.aB).1 (pR x).1 x.az xs
def afi(l:List bu):Int:=uD l 0 bf [] 0 l
structure EW where
 s:Int
 d:Int
 e:aQ
def zG(s:jw)(p:af)(e:aQ):Bool:=(decide (e.aj≤3)&&e.ag==p) || (e.aj==4&&(dP s.aK p).isSome&&under p e.ag)
def Km(num d:Int)(p:af):jw→List aQ→List EW
 |_,[]=> []
 |s,e::es=>(if zG s p e then [⟨num,d,e⟩]else [])++Km num d p (cZ s e d).1 es
def wM(p:af):jw→List bu→List EW
 |_,[]=> []
 |s,x::xs=>Km x.num x.az p s x.aB++wM p (iZ s x.az x.aB) xs
def afj(l:List bu)(p:af):List EW:=wM p bf l
def Re(d:Int):List bu→Nat
 | []=>0
 |x::l=>if d<x.az then 0 else Re d l+1
structure oC (x:aQ):Prop where
 k1:1≤x.aj
 k6:x.aj≤6
 ED:x.au.length≤16
 Nt:∀a∈x.au,a.k.length≤32∧a.v.length≤64
 av:x.av.length≤200
 s0:0≤x.size
 s1:x.size≤65536
 aI:x.aI.length≤32
 ag:x.ag.length≤200
 Rf:∀y∈x.aD,0≤y.s∧y.s≤255∧0≤y.o∧y.o≤2147483647∧1≤y.n∧y.n≤65536
theorem XT{f:Bool}:∀{l:List Xt},cz f l=0→ ∀y∈l,dE y=false
 | [],_,y,hy=>by cases hy
 |x::l,h,y,hy=>by
  unfold cz at h;split at h
  ·omega
  split at h
  ·omega
  rename_i k;rcases List.mem_cons.1 hy with rfl|hy
  ·simpa using k
  ·exact XT h y hy
theorem Xo9{x:Xt}(h:dE x=false):0≤x.s∧x.s≤255∧0≤x.o∧x.o≤2147483647∧1≤x.n∧x.n≤65536:=by
 unfold dE at h;simp only[Bool.or_eq_false_iff,decide_eq_false_iff_not]at h;omega
theorem NQ(h:aL x=0):oC x:=by
 have hk:=De h;have Dt:=(CY hk.2.2.1).1;unfold aL at h;rw[if_neg (by omega)]at h;by_cases h1:aR x.ag≠0
 ·rw[if_pos h1]at h;exact absurd h h1
 rw[if_neg h1]at h;split at h
 ·omega
 by_cases h2:nK x.au≠0
 ·rw[if_pos h2]at h;exact absurd h h2
 rw[if_neg h2]at h;split at h
 ·omega
 rename_i h3;split at h
 ·omega
 rename_i h4;split at h
 ·omega
 rename_i h5;by_cases h6:cz (x.aj==1) x.aD≠0
 ·rw[if_pos h6]at h;exact absurd h h6
 have hc:=Xst (l:=x.au) (by omega);refine⟨by omega,by omega,hc.1,hc.2,?_,by omega,by omega,?_,by omega,fun y hy=>Xo9 (XT (f:=x.aj==1) (Classical.byContradiction h6) y hy)⟩
 ·have ht:bR x=true:=by
   cases hh:bR x with
   |true=>rfl
   |false=>exact absurd (.inr hh) h3
  unfold bR at ht;split at ht
  ·simp at ht;omega
  ·split at ht
   ·have:=WG ht;omega
   ·have:x.av=[]:=by simpa using ht
    rw[this];simp
 ·by_cases sW:x.aj=1
  ·have:¬(x.aj=1∧x.aI.length≠32):=fun q=>h5 (.inl q);omega
  ·have:¬(x.aj≠1∧x.aI≠[]):=fun q=>h5 (.inr q);have hd:x.aI=[]:=Classical.byContradiction fun q=>this ⟨sW,q⟩;rw[hd];simp
theorem yE{n:Int}(h0:0≤n)(h1:n≤140737488355200):(dZ n).length≤17:=by
 obtain⟨m,rfl⟩:=Int.eq_ofNat_of_zero_le h0;exact BG m (by omega)
theorem XU(h:oC x):(jN x).length≤2700:=by
 have h1:=Xqs h.ED h.Nt;have h2:=Qq x.aj;have h3:=tq (fU x.aj) (by omega);have h4:=tq x.ag (by have:=h.ag;omega);have h5:=tq x.av (by have:=h.av;omega);have h6:=h.ag;have h7:=h.av;unfold jN;simp only[List.length_append];omega
def BM(e:aQ):af:=dL (jN e)++dZ e.size++dL e.aI++dZ e.aD.length
def mi(e:aQ)(k:Nat):af:=BM e++Dw (e.aD.take k)
theorem Xoe(hk:k<e.aD.length){x:Xt}(hx:e.aD[k]=x):mi e (k+1)=mi e k++(dZ x.s++dZ x.o++dZ x.n):=by
 rw[mi,mi,List.take_succ_eq_append_getElem hk,hx,Dw,List.flatMap_append,←List.append_assoc];simp[Dw]
theorem XV(e:aQ)(h:e.aD.length≤k):mi e k=uC e:=by rw[mi,List.take_of_length_le h];rfl
theorem Xod(e:aQ):mi e 0=BM e:=by rw[mi,List.take_zero];simp[Dw]
theorem Xqh(h:oC x)(hx:x.aD.length≤1000):(BM x).length≤2900:=by
 have h1:=XU h;have h2:=tq (jN x) (by omega);have h3:=yE h.s0 (by have:=h.s1;omega);have h4:=tq x.aI (by have:=h.aI;omega);have h5:=BG x.aD.length (by omega);have h6:=h.aI;unfold BM;simp only[List.length_append];omega
theorem XW:∀{l:List Xt},(∀y∈l,0≤y.s∧y.s≤255∧0≤y.o∧y.o≤2147483647∧1≤y.n∧y.n≤65536)→(Dw l).length≤51*l.length
 | [],_=>by simp[Dw]
 |y::l,h=>by
  have h1:=h y (List.mem_cons_self ..);have h2:=XW fun z hz=>h z (List.mem_cons_of_mem _ hz);have h3:=yE (n:=y.s) (by omega) (by omega);have h4:=yE (n:=y.o) (by omega) (by omega);have h5:=yE (n:=y.n) (by omega) (by omega);unfold Dw at*;simp only[List.flatMap_cons,List.length_append,List.length_cons];omega
theorem XX(h:oC x)(hx:x.aD.length≤1000)(k:Nat):(mi x k).length≤54000:=by
 have h1:=Xqh h hx;have h2:=XW (l:=x.aD.take k) fun y hy=>h.Rf y (List.mem_of_mem_take hy);have h3:(x.aD.take k).length≤x.aD.length:=by simp;omega
 unfold mi;rw[List.length_append];omega
theorem XY(h:oC x)(hx:x.aD.length≤1000):(uC x).length≤54000:=by
 rw[←XV x (Qn _)];exact XX h hx _
section
variable {P:Program} {ops:Array Oper} {md:Region.Mode} {Q:Exit→Act→World→Prop}
def pU(s:Array Bool):Nat:=s.toList.countP (!·)
theorem XZ:∀(l:List Bool) (i:Nat),l[i]?=some false→(l.set i true).countP (!·)+1=l.countP (!·)
 | [],_,h=>absurd h (by simp)
 |b::l,0,h=>by
  simp at h;subst h;simp
 |b::l,i+1,h=>by
  have:=XZ l i (by simpa using h);simp only[List.set_cons_succ,List.countP_cons];omega
theorem X0(h:s.getD i true=false):s.toList[i]?=some false:=by
 rw[Array.getElem?_toList];rw[Array.getD_eq_getD_getElem?]at h;cases hs:s[i]? with
 |none=>rw[hs]at h;simp at h
 |some b=>rw[hs]at h;simpa using h
theorem X8(h:s.getD i true=false):pU (s.setIfInBounds i true)+1=pU s:=by
 unfold pU;rw[Array.toList_setIfInBounds];exact XZ _ _ (X0 h)
theorem Xn1(h:s.getD i true=false):0<pU s:=by have:=X8 h;omega
theorem Xmw{J:Array Bool→Act→World→Prop}(qz:∀s a w i,J s a w→i∈Region.ready md ops s→wpOp P ops Q i (fun a' w'=>J (s.setIfInBounds i true) a' w') a w)
 (uQ:∀s a w,J s a w→Region.ready md ops s=[]→Q .normal a w):∀(f:Nat) (s:Array Bool) (a:Act) (w:World),pU s≤f→J s a w→wpAny P md ops Q f s a w:=by
 intro f;induction f with
 |zero=>
  intro s a w hf hJ;have hr:Region.ready md ops s=[]:=by
   cases h:Region.ready md ops s with
   |nil=>rfl
   |cons j l=>
    have:=Xn1 (mem_ready.1 (show j∈Region.ready md ops s by rw[h];exact List.mem_cons_self ..)).1;omega
  exact⟨hr,uQ s a w hJ hr⟩
 |succ f ih=>
  intro s a w hf hJ;refine⟨uQ s a w hJ,fun i hi=>wpOp_mono (fun a' w' h=>ih _ _ _ ?_ h) (qz s a w i hJ hi)⟩;have:=X8 (mem_ready.1 hi).1;omega
theorem Xj6(n:Nat):pU (Array.replicate n false)=n:=by
 simp[pU,List.countP_replicate]
theorem Xg4(J:Array Bool→Act→World→Prop)(hm:P.follows .mixedOrders=true)(h0:J (Array.replicate ops.size false) a {w with drawn:=w.drawn+1})
 (qz:∀s a w i,J s a w→i∈Region.ready .any ops s→wpOp P ops Q i (fun a' w'=>J (s.setIfInBounds i true) a' w') a w)
 (uQ:∀s a w,J s a w→Region.ready .any ops s=[]→Q .normal a w):(Code.region id ops true).wp P Q a w:=
 wp_region_any hm (Xmw qz uQ _ _ _ _ (by rw[Xj6];exact Qn _) h0)
def bH:List (Option Tmp×Value)→Nat→Array Bool→Act→Act
 | [],_,_,a=>a
 |(d,v)::l,k,s,a=>bH l (k+1) s (if s.getD k false then a.put d v else a)
theorem Xnq(a:Act){e:Option Tmp}(u v:Value)(h:∀t,d=some t→e≠some t):(a.put d u).put e v=(a.put e v).put d u:=by
 cases d with
 |none=>rfl
 |some d=>
  cases e with
  |none=>rfl
  |some e=>
   have aZ:d≠e:=fun h'=>h d rfl (by rw[h']);simp only[Act.put];rw[Array.setIfInBounds_comm _ _ aZ]
def bE(l:List (Option Tmp×Value)):Prop:=l.Pairwise fun p q=> ∀t,p.1=some t→q.1≠some t
theorem Rh:∀(l:List (Option Tmp×Value)) (k:Nat) (s:Array Bool) (a:Act) (d:Option Tmp) (v:Value),(∀p∈l,∀t,d=some t→p.1≠some t)→bH l k s (a.put d v)=(bH l k s a).put d v
 | [],_,_,_,_,_,_=>rfl
 |(e,u)::l,k,s,a,d,v,h=>by
  rw[bH,bH];split
  ·rw[Xnq a v u (h (e,u) (List.mem_cons_self ..)),Rh l _ _ _ _ _ fun p hp=>h p (List.mem_cons_of_mem _ hp)]
  ·rw[Rh l _ _ _ _ _ fun p hp=>h p (List.mem_cons_of_mem _ hp)]
theorem X9:∀(l:List (Option Tmp×Value)) (k:Nat) (s:Array Bool) (a:Act) (i:Nat),i<k→bH l k (s.setIfInBounds i true) a=bH l k s a
 | [],_,_,_,_,_=>rfl
 |(e,u)::l,k,s,a,i,h=>by
  rw[bH,bH,getD_set_ne false (by omega),X9 l (k+1) s _ i (by omega)]
theorem Ya:∀(l:List (Option Tmp×Value)) (k i:Nat) (s:Array Bool) (a:Act) (d:Option Tmp) (v:Value),bE l→l[i]?=some (d,v)→s.getD (k+i) true=false→(bH l k s a).put d v=bH l k (s.setIfInBounds (k+i) true) a
 | [],_,_,_,_,_,_,_,h,_=>absurd h (by simp)
 |(e,u)::l,k,0,s,a,d,v,hp,h,hs=>by
  simp at h;obtain⟨rfl,rfl⟩:=h;have hf:s.getD k false=false:=by
   rw[Nat.add_zero]at hs;rw[Array.getD_eq_getD_getElem?]at hs ⊢;cases hk:s[k]? with
   |none=>rw[hk]at hs;simp at hs
   |some b=>rw[hk]at hs;simpa using hs
  have ht:(s.setIfInBounds k true).getD k false=true:=by
   have hlt:k<s.size:=by
    rw[Nat.add_zero]at hs;have:=X0 hs;have:=(List.getElem?_eq_some_iff.1 this).1;simpa using this
   simp[Array.getD_eq_getD_getElem?,hlt]
  simp only[Nat.add_zero];rw[bH,bH,ht,hf];simp only[Bool.false_eq_true,if_false,if_true];rw[X9 l (k+1) s _ k (by omega),Rh];exact fun p hm t=>(List.pairwise_cons.1 hp).1 p hm t
 |(e,u)::l,k,i+1,s,a,d,v,hp,h,hs=>by
  rw[bH,bH,getD_set_ne false (by omega),show k+(i+1)=k+1+i by omega];exact Ya l (k+1) i s _ d v (List.pairwise_cons.1 hp).2 (by simpa using h) (by rw[←hs];congr 1;omega)
theorem Yb(a:Act)(v:Value)(h:d≠some t):(a.put d v).eval (.tmp t)=a.eval (.tmp t):=
 Act.eval_put fun d' hd e=>h (by rw[hd];injection e with e;rw[e])
theorem Yc(a:Act)(d:Option Tmp)(v:Value):(a.put d v).tmps.size=a.tmps.size:=by cases d<;>simp[Act.put]
theorem NR:∀(l:List (Option Tmp×Value)) (k:Nat) (s:Array Bool) (a:Act) (t:Tmp),(∀p∈l,p.1≠some t)→(bH l k s a).eval (.tmp t)=a.eval (.tmp t)
 | [],_,_,_,_,_=>rfl
 |(e,u)::l,k,s,a,t,h=>by
  rw[bH,NR l _ _ _ _ fun p hp=>h p (List.mem_cons_of_mem _ hp)];split
  ·exact Yb a u (h (e,u) (List.mem_cons_self ..))
  ·rfl
theorem Yd:∀(l:List (Option Tmp×Value)) (k i:Nat) (s:Array Bool) (a:Act) (t:Tmp) (v:Value),bE l→l[i]?=some (some t,v)→s.getD (k+i) false=true→t<a.tmps.size→(bH l k s a).eval (.tmp t)=v
 | [],_,_,_,_,_,_,_,h,_,_=>absurd h (by simp)
 |(e,u)::l,k,0,s,a,t,v,hp,h,hs,ht=>by
  simp at h;obtain⟨rfl,rfl⟩:=h;rw[Nat.add_zero]at hs;rw[bH,hs,if_pos rfl,NR l _ _ _ _ fun p hm e=>(List.pairwise_cons.1 hp).1 p hm t rfl e];simp[Act.put,Act.eval,Array.getD_eq_getD_getElem?,ht]
 |(e,u)::l,k,i+1,s,a,t,v,hp,h,hs,ht=>by
  rw[bH];refine Yd l (k+1) i s _ t v (List.pairwise_cons.1 hp).2 (by simpa using h) (by rw[←hs];congr 1;omega) ?_;split
  ·rw[Yc];exact ht
  ·exact ht
theorem NS:∀(l m:List (Option Tmp×Value)) (k:Nat) (s:Array Bool) (a:Act),l.length=m.length→(∀i,s.getD (k+i) false=true→l[i]?=m[i]?)→bH l k s a=bH m k s a
 | [],[],_,_,_,_,_=>rfl
 | [],_::_,_,_,_,h,_=>absurd h (by simp)
 |_::_,[],_,_,_,h,_=>absurd h (by simp)
 |(e,u)::l,(f,v)::m,k,s,a,hl,h=>by
  rw[bH,bH];have kZ:∀a',bH l (k+1) s a'=bH m (k+1) s a':=fun a'=>NS l m (k+1) s a' (by simpa using hl) fun i hi=>by
   have:=h (i+1) (by rw[←hi];congr 1;omega);simpa using this
  cases hk:s.getD k false
  ·simp only[Bool.false_eq_true,if_false];exact kZ a
  ·have:=h 0 hk;simp at this;obtain⟨rfl,rfl⟩:=this;simp only[if_true];exact kZ _
theorem Xob(l:List (Option Tmp×Value))(a:Act):∀(k n:Nat),bH l k (Array.replicate n false) a=a:=by
 induction l generalizing a with
 |nil=>intro k n;rfl
 |cons p l ih=>
  intro k n;obtain⟨d,v⟩:=p;have:(Array.replicate n false).getD k false=false:=by
   rw[Array.getD_eq_getD_getElem?];rw[Array.getElem?_replicate];split<;>rfl
  rw[bH,this];simp only[Bool.false_eq_true,if_false];exact ih a _ _
end
section
variable {P:Program} {ops:Array Oper} {Q:Exit→Act→World→Prop}
def Ye(ops:Array Oper):Bool:=(List.range ops.size).all fun i=>((ops[i]?).map fun o=>o.after.all fun e=>decide (e.on<i)).getD true
def df:List (Option Tmp×Value)→Act→Act
 | [],a=>a
 |(d,v)::l,a=>df l (a.put d v)
theorem su:∀(l:List (Option Tmp×Value)) (k:Nat) (s:Array Bool) (a:Act),(∀i,i<l.length→s.getD (k+i) false=true)→bH l k s a=df l a
 | [],_,_,_,_=>rfl
 |(d,v)::l,k,s,a,h=>by
  have h0:=h 0 (by simp);rw[Nat.add_zero]at h0;rw[bH,h0,if_pos rfl,df];exact su l (k+1) s _ fun i hi=>by
   have:=h (i+1) (by simp;omega);rw[←this];congr 1;omega
end
section
variable {P:Program} {α:Type} {T:Ty α} {I:IH}
theorem Xe9{t e:TypeId}{i:TypeInfo}(ht:P.underlying t=some (.slice e))(hi:P.info? e=some i)(w:World)(b ao:Option Addr)(n cap c:Nat)(hn:n≤cap):
 (Builtin.append_ #[t,t] ty #[.slice b n cap,.slice ao 0 c]).run P w= .ok (.slice b n cap) w:=by
 cases b<;>cases ao<;>simp[Builtin.append_,run_underlying ht,sizeOf,typeInfo,hi,Builtin.lenOf,Builtin.firstCells,loadCells,loadCellsFrom,hn,storeCells]
def uE(T:Ty α)(I:IH)(w:World)(v:Value)(l:List α):Prop:=
 ∃ao c cs,v= .slice ao l.length c∧bB T I cs l∧(0<l.length→ ∃ad,ao=some ad∧ ∀j u,cs[j]?=some u→w.cell? (ad.add j)=some u)
theorem uE.vJ{x:α}{cs:List Value}(hx:T.rd I cs x)(hc:∀j u,cs[j]?=some u→w.cell? ⟨g,j,none⟩=some u):uE T I w (.slice (some ⟨g,0,none⟩) 1 1) [x]:=
 ⟨_,_,cs,rfl,bB.one hx,fun _=>⟨_,rfl,fun j u hu=>by rw[Addr.add_lit,Nat.zero_add];exact hc j u hu⟩⟩
end
theorem dF(hp:bE L)(ha:a'=bH L 0 s a)(hi:L[i]?=some (d,v))(aJ:s.getD i true=false):a'.put d v=bH L 0 (s.setIfInBounds i true) a:=by
 have h:=Ya L 0 i s a d v hp hi (by rw[Nat.zero_add];exact aJ);rw[ha,h,Nat.zero_add]
theorem fD(hp:bE L)(ha:a'=bH L 0 s a)(hi:L[i]?=some (some t,v))(hs:s.getD i false=true)(ht:t<a.tmps.size):a'.tmps[t]?.getD undef=v:=by
 have h:=Yd L 0 i s a t v hp hi (by rw[Nat.zero_add];exact hs) ht;rw[←ha]at h;simpa[Act.eval]using h
theorem lT(ha:a'=bH L 0 s a)(h:∀p∈L,p.1≠some t):a'.tmps[t]?.getD undef=a.tmps[t]?.getD undef:=by
 have h:=NR L 0 s a t h;rw[←ha]at h;simpa[Act.eval]using h
theorem jl(h:s.getD i true=false):s.getD i false=false:=by
 rw[Array.getD_eq_getD_getElem?]at h ⊢;cases hs:s[i]? with
 |none=>rfl
 |some b=>rw[hs]at h;simpa using h
theorem tJ(h:s.getD i true=false):i<s.size:=by
 rcases Nat.lt_or_ge i s.size with h'|h'
 ·exact h'
 ·rw[Array.getD_eq_getD_getElem?,Array.getElem?_eq_none h']at h;simp at h
theorem sw(n i:Nat):(Array.replicate n false).getD i false=false:=by
 rw[Array.getD_eq_getD_getElem?,Array.getElem?_replicate];split<;>rfl
theorem zH(h:i<s.size):(s.setIfInBounds i true).getD i false=true:=by
 rw[Array.getD_eq_getD_getElem?,Array.getElem?_setIfInBounds_self_of_lt h];rfl
theorem Yf(i:Nat)(hl:L.length=M.length)(h:∀j,j≠i→L[j]?=M[j]?)(aJ:s.getD i true=false):bH L 0 s a=bH M 0 s a:=
 NS _ _ _ _ _ hl fun j hj=>by
  rw[Nat.zero_add]at hj;exact h j fun e=>by rw[e,jl aJ]at hj;cases hj
def vK(ops:Array Oper):Bool:=(List.range ops.size).all fun i=>((ops[i]?).map fun o=>o.after.all fun e=> !(Region.binds .any e) || decide (e.on<i)).getD true
theorem Xs3(hb:vK ops=true)(hr:Region.ready .any ops s=[])(cu:s.size=ops.size):∀i,i<ops.size→s.getD i false=true:=by
 intro i;induction i using Nat.strongRecOn with
 |_ i ih=>
  intro hi;cases hs:s.getD i false with
  |true=>rfl
  |false=>
   exfalso;have hs':s.getD i true=false:=by
    rw[Array.getD_eq_getD_getElem?]at hs ⊢;have hlt:i<s.size:=by omega
    rw[Array.getElem?_eq_getElem hlt]at hs ⊢;simpa using hs
   have:i∈Region.ready .any ops s:=mem_ready.2 ⟨hs',ops[i],Array.getElem?_eq_getElem hi,fun e he oh=> ?_⟩
   ·rw[hr]at this;exact absurd this (by simp)
   ·have h:=List.all_eq_true.1 hb i (List.mem_range.2 hi);rw[Array.getElem?_eq_getElem hi]at h;simp only[Option.map_some,Option.getD_some]at h;obtain⟨j,hj,rfl⟩:=Array.getElem_of_mem he;have h2:=Array.all_eq_true.1 h j hj;rw[oh]at h2;have h3:ops[i].after[j].on<i:=by simpa using h2
    exact ih _ h3 (by omega)
theorem Xe0(L:X→List (Option Tmp×Value))(C:X→Array Bool→World→Prop)(hm:P.follows .mixedOrders=true)(hb:vK ops=true)(h0:∃x,C x (Array.replicate ops.size false) {w with drawn:=w.drawn+1})
 (qz:∀x s a' w' i,s.size=ops.size→a'=bH (L x) 0 s a→C x s w'→i∈Region.ready .any ops s→wpOp P ops Q i (fun a'' w''=> ∃y,a''=bH (L y) 0 (s.setIfInBounds i true) a∧C y (s.setIfInBounds i true) w'') a' w')
 (uQ:∀x s a' w',(∀i,i<ops.size→s.getD i false=true)→a'=bH (L x) 0 s a→C x s w'→Q .normal a' w'):(Code.region id ops true).wp P Q a w:=by
 refine Xg4 (fun s a' w'=>s.size=ops.size∧ ∃x,a'=bH (L x) 0 s a∧C x s w') hm ?_ ?_ ?_
 ·obtain⟨x,hx⟩:=h0;exact⟨by simp,x,(Xob _ _ _ _).symm,hx⟩
 ·rintro s a' w' i ⟨cu,x,ha,hx⟩ hi;exact wpOp_mono (fun a'' w'' ⟨y,h1,h2⟩=>⟨by simpa using cu,y,h1,h2⟩) (qz x s a' w' i cu ha hx hi)
 ·rintro s a' w' ⟨cu,x,ha,hx⟩ hr;exact uQ x s a' w' (Xs3 hb hr cu) ha hx
theorem Xfa(hE:dx P ts te T bytes)(bM:aN T te I w B v l)(hy:uE T I w vx ys)
 (eU:(l.length+ys.length)*bytes≤140737488355328) (hl:l.length+ys.length≤9223372036854775807) (hB:B≤w.heap.size):
 ∃v' w',(Builtin.append_ #[ts,ts] ty #[v,vx]).run P w= .ok v' w'∧aN T te I w' B v' (l++ys)∧w.grownBy w' v.ownBlock∧ ∀g,v'.ownBlock=some g→v.ownBlock=some g∨w.heap.size≤g:=by
 obtain⟨i,z,h1,h2,h3,h4,h5,h6,h7⟩:=hE;obtain⟨ao,c,cs,rfl,k1,k2⟩:=hy;obtain⟨xs,k3,k4⟩:=bM;rcases Nat.eq_zero_or_pos ys.length with h0|h0
 ·have:ys=[]:=List.eq_nil_of_length_eq_zero h0;subst this;have hv:∃b n cap,v= .slice b n cap∧n≤cap:=by
   rcases k3.2 with⟨h8,_⟩|⟨g,cap,cur,h8,_,_,h9,_⟩
   ·exact⟨_,_,_,h8,Qn _⟩
   ·exact⟨_,_,_,h8,h9⟩
  obtain⟨b,n,cap,rfl,hn⟩:=hv;refine⟨_,w,Xe9 h1 h2 w b ao n cap c hn,⟨xs,by rw[List.append_nil];exact k3,by rw[List.append_nil];exact k4⟩,⟨rfl,rfl,rfl,Qn _,fun _ _ _=>rfl⟩,fun g hg=> .inl hg⟩
 ·obtain⟨ad,rfl,fK⟩:=k2 h0;obtain⟨v',w',hr,r1,r2,_,r4⟩:=run_append_own_at (P:=P) w B ts ty te i z T.size bytes h1 h2 h3 h4 h5 h6 h7 v l.length xs k3 ad ys.length c cs k1.1 fK k1.oneCell (by unfold maxLen;omega) eU hB;refine⟨v',w',hr,⟨xs++cs,by rw[List.length_append];exact r1,k4.append k1⟩,r2,fun g hg=> ?_⟩;rcases r4 with r4|r4
  ·exact .inl (r4▸hg)
  ·rw[r4]at hg;exact .inr (by cases hg;exact Qn _)
theorem Ri(hE:dx P ts te T bytes){o:Oper}{K:Act→World→Prop}(s x:Operand)
 (ho:o.op= .call {callee:= .builtin .append,args:=#[s,x],argTypes:=#[ts,ts]})    (hs:a.eval s=v) (bM:aN T te I w B v l)   (hx:a.eval x=vx) (hy:uE T I w vx ys)
 (eU:(l.length+ys.length)*bytes≤140737488355328) (hl:l.length+ys.length≤9223372036854775807) (hB:B≤w.heap.size)
 (h:∀v' w',aN T te I w' B v' (l++ys)→w.grownBy w' v.ownBlock→(∀g,v'.ownBlock=some g→v.ownBlock=some g∨w.heap.size≤g)→K (a.put o.dst v') w'):Oper.wp P o a w K Q:=by
 obtain⟨v',w',hr,h1,h2,h3⟩:=Xfa (ty:=o.type) hE bM hy eU hl hB;unfold Oper.wp execOp;simp only[ho,resolve,invoke,builtin,Sem.run_bind,Sem.run_pure,Result.andThen_ok,List.map_toArray,List.map_cons,List.map_nil,hs,hx,hr];exact h v' w' h1 h2 h3
structure NT where
 e:Nat
 b:Nat
 v1:Value
 v2:Value
structure A2C {α:Type} (T:Ty α) (E:TypeId) (I:IH) (w3:World) (l:List α) (y:α) (row:Array Value) (i0 i2 i4 i5:Nat) (x:NT) (s:Array Bool) (w:World):Prop where
 eD:Below w3.heap.size w3 w
 p0:s.getD i0 false=true→s.getD i2 false=false→aN T E I w w3.heap.size (.slice (some ⟨x.e,0,none⟩) 0 0) []
 p2:s.getD i2 false=true→s.getD i5 false=false→aN T E I w w3.heap.size x.v1 l
 p4:s.getD i4 false=true→s.getD i5 false=false→w.heap[x.b]?=some (.cells row E (0,0))
 p5:s.getD i5 false=true→aN T E I w w3.heap.size x.v2 (l++[y])
 n0:s.getD i0 false=true→s.getD i2 false=false→s.getD i4 false=true→x.e≠x.b
 n2:s.getD i2 false=true→s.getD i4 false=true→s.getD i5 false=false→x.v1.ownBlock≠some x.b
 o2:s.getD i2 false=true→s.getD i0 false=true
 o5:s.getD i5 false=true→s.getD i2 false=true∧s.getD i4 false=true
section
variable {α:Type} {T:Ty α} {E:TypeId} {I:IH} {w3 w w':World} {l:List α} {y:α} {row:Array Value} {i0 i2 i4 i5:Nat} {x:NT} {s:Array Bool}
theorem Dx{l:List α}(h:aN T E I w B v l)(hg:v.ownBlock=some g):B≤g∧g<w.heap.size:=by
 obtain⟨xs,h1,_⟩:=h;exact h1.lt g hg
end
structure sD (W:World) (last j1 j2:Nat) (cs1 cs2:List (Nat×Value)) (fin:World→Prop) (x:Nat×Nat) (s:Array Bool) (w:World):Prop where
 eD:s.getD last false=false→Below W.heap.size W w
 f1:s.getD j1 false=true→s.getD last false=false→ ∀p∈cs1,w.cell? ⟨x.1,p.1,none⟩=some p.2
 f2:s.getD j2 false=true→s.getD last false=false→ ∀p∈cs2,w.cell? ⟨x.2,p.1,none⟩=some p.2
 fin:s.getD last false=true→fin w
section
variable {W w w':World} {last j1 j2:Nat} {cs1 cs2:List (Nat×Value)} {fin:World→Prop} {x:Nat×Nat} {s:Array Bool}
theorem sD.start(n:Nat)(x:Nat×Nat):sD W last j1 j2 cs1 cs2 fin x (Array.replicate n false) {W with drawn:=W.drawn+1}:=
 ⟨fun _=>(Qb _ _).drew,fun h=>(by rw[sw]at h;cases h),fun h=>(by rw[sw]at h;cases h),fun h=>(by rw[sw]at h;cases h)⟩
theorem sD.step(h:sD W last j1 j2 cs1 cs2 fin x s w)(hl:s.getD last false=false)(hb:Below w.heap.size w w')(h1:i≠j1)(h2:i≠j2)(h3:i≠last):sD W last j1 j2 cs1 cs2 fin x (s.setIfInBounds i true) w':=by
 refine⟨fun _=>(h.eD hl).trans (hb.mono (h.eD hl).size),?_,?_,?_⟩
 ·rw[getD_set_ne false h1];exact fun a _ p hp=>bI hb (h.f1 a hl p hp)
 ·rw[getD_set_ne false h2];exact fun a _ p hp=>bI hb (h.f2 a hl p hp)
 ·rw[getD_set_ne false h3,hl];intro q;cases q
theorem sD.Yg(h:sD W last j1 j2 cs1 cs2 fin x s w)(hl:s.getD last false=false)(hb:Below w.heap.size w w')(h2:j1≠j2)(h3:j1≠last)(hc:∀p∈cs1,w'.cell? ⟨n,p.1,none⟩=some p.2):sD W last j1 j2 cs1 cs2 fin (n,x.2) (s.setIfInBounds j1 true) w':=by
 refine⟨fun _=>(h.eD hl).trans (hb.mono (h.eD hl).size),fun _ _=>hc,?_,?_⟩
 ·rw[getD_set_ne false h2];exact fun a _ p hp=>bI hb (h.f2 a hl p hp)
 ·rw[getD_set_ne false h3,hl];intro q;cases q
theorem sD.at2(h:sD W last j1 j2 cs1 cs2 fin x s w)(hl:s.getD last false=false)(hb:Below w.heap.size w w')(h1:j2≠j1)(h3:j2≠last)(hc:∀p∈cs2,w'.cell? ⟨n,p.1,none⟩=some p.2):sD W last j1 j2 cs1 cs2 fin (x.1,n) (s.setIfInBounds j2 true) w':=by
 refine⟨fun _=>(h.eD hl).trans (hb.mono (h.eD hl).size),?_,fun _ _=>hc,?_⟩
 ·rw[getD_set_ne false h1];exact fun a _ p hp=>bI hb (h.f1 a hl p hp)
 ·rw[getD_set_ne false h3,hl];intro q;cases q
theorem sD.end'(aJ:s.getD last true=false)(hf:fin w'):sD W last j1 j2 cs1 cs2 fin x (s.setIfInBounds last true) w':=by
 have e:=zH (tJ aJ);exact⟨fun q=>(by rw[e]at q;cases q),fun _ q=>(by rw[e]at q;cases q),fun _ q=>(by rw[e]at q;cases q),fun _=>hf⟩
end
def BN(ops:Array Oper)(s:Array Bool):Prop:=∀i o,ops[i]?=some o→s.getD i false=true→ ∀e∈o.after,Region.binds .any e=true→s.getD e.on false=true
def uF(ops:Array Oper):List Nat→Bool
 |i::j::r=>(match ops[i]? with|some o=>o.after.any fun e=>Region.binds .any e&&e.on==j|none=>false)&&uF ops (j::r)
 |_=>true
theorem Rj(h:BN ops s):∀(p:List Nat) (k i:Nat),uF ops (k::p)=true→(k::p).getLast?=some i→s.getD k false=true→s.getD i false=true
 | [],k,i,_,hl,hk=>by simp at hl;exact hl▸hk
 |j::r,k,i,hp,hl,hk=>by
  unfold uF at hp;rw[Bool.and_eq_true]at hp;obtain⟨h1,h2⟩:=hp;cases ho:ops[k]? with
  |none=>rw[ho]at h1;simp at h1
  |some o=>
   rw[ho]at h1;simp only[Array.any_eq_true,Bool.and_eq_true,beq_iff_eq]at h1;obtain⟨n,hn,h3,h4⟩:=h1;exact Rj h r j i h2 (by simpa using hl) (h4▸h k o ho hk _ (Array.getElem_mem hn) h3)
theorem gK(h:BN ops s)(p:List Nat)(hp:uF ops (k::p)=true)(hl:(k::p).getLast?=some i)(aJ:s.getD i true=false):s.getD k false=false:=by
 cases hk:s.getD k false with
 |false=>rfl
 |true=>have:=Rj h p k i hp hl hk;rw[jl aJ]at this;cases this
theorem Xsp(h:BN ops s)(hi:i∈Region.ready .any ops s):BN ops (s.setIfInBounds i true):=by
 obtain⟨aJ,oi,dN,aA⟩:=mem_ready.1 hi;have up:∀j,s.getD j false=true→(s.setIfInBounds i true).getD j false=true:=fun j hj=>by
  by_cases e:i=j
  ·subst e;exact zH (tJ aJ)
  ·rw[getD_set_ne false e];exact hj
 intro j o ho hj e he hb;by_cases c:i=j
 ·subst c;rw[dN]at ho;cases ho;exact up _ (aA e he hb)
 ·rw[getD_set_ne false c]at hj;exact up _ (h j o ho hj e he hb)
theorem Xqe(i k:Nat)(hl:L.length=M.length)(h:∀j,j≠i→j≠k→L[j]?=M[j]?)(aJ:s.getD i true=false)(hk:s.getD k false=false):bH L 0 s a=bH M 0 s a:=
 NS _ _ _ _ _ hl fun j hj=>by
  rw[Nat.zero_add]at hj;exact h j (fun e=>by rw[e,jl aJ]at hj;cases hj) (fun e=>by rw[e,hk]at hj;cases hj)
theorem tK(L:X→List (Option Tmp×Value))(C:X→Array Bool→World→Prop)(hm:P.follows .mixedOrders=true)(hb:vK ops=true)(h0:∃x,C x (Array.replicate ops.size false) {w with drawn:=w.drawn+1})
 (qz:∀x s a' w' i,s.size=ops.size→BN ops s→a'=bH (L x) 0 s a→C x s w'→i∈Region.ready .any ops s→wpOp P ops Q i (fun a'' w''=> ∃y,a''=bH (L y) 0 (s.setIfInBounds i true) a∧C y (s.setIfInBounds i true) w'') a' w')
 (uQ:∀x s a' w',(∀i,i<ops.size→s.getD i false=true)→a'=bH (L x) 0 s a→C x s w'→Q .normal a' w'):(Code.region id ops true).wp P Q a w:=by
 refine Xe0 (X:=X) L (fun x s w'=>BN ops s∧C x s w') hm hb ?_ ?_ ?_
 ·obtain⟨x,hx⟩:=h0;exact⟨x,fun i _ _ q=>(by rw[sw]at q;cases q),hx⟩
 ·rintro x s a' w' i cu ha ⟨bU,hC⟩ hi;exact wpOp_mono (fun a'' w'' ⟨y,h1,h2⟩=>⟨y,h1,Xsp bU hi,h2⟩) (qz x s a' w' i cu bU ha hC hi)
 ·rintro x s a' w' eX ha ⟨_,hC⟩;exact uQ x s a' w' eX ha hC
theorem Xtp(n:Int)(h0:0≤n)(h1:n≤140737488355200)(w:World):
 Calls Tryz.prog 157 #[.int .i64 n] w fun e w'=>e= .returned (S (dZ n))∧Below w.heap.size w w':=by
 obtain⟨m,rfl⟩:=Int.eq_ofNat_of_zero_le h0;exact Xif m (by omega) w
theorem G8(I:IH)(hI:cB I)(n:Int)(h0:0≤n)(h1:n≤140737488355200)(w:World)(hw:Ok I w):
 Calls Tryz.prog 153 #[.int .i64 n] w fun e w'=>e= .returned (S (dZ n))∧Below w.heap.size w w':=by
 obtain⟨m,rfl⟩:=Int.eq_ofNat_of_zero_le h0;exact JL I hI m (by omega) w hw
theorem Xto{W:World}{p q:af}(h0:W.cell? ⟨b,0,none⟩=some (S p))(h1:W.cell? ⟨b,1,none⟩=some (S q)):pG W b 0 [p,q]:=fun j x hx=>by
 match j with
 |0=>cases hx;exact h0
 |1=>cases hx;exact h1
 |_+2=>simp at hx
theorem Xhx{T e:TypeId}{bs:List Value}(h:Lib.IsBuilder T e B b bs w)(o:Obj):Lib.IsBuilder T e B b bs (w.alloc o):=zk h ((Qb _ _).alloc (Qn _) _)
theorem Xqi(k:Int)(h1:1≤k)(h2:k≤6)(w:World):
 Calls Tryz.prog 243 #[] w fun e w'=>e= .returned (.slice (some ⟨w.heap.size,0,none⟩) 6 6)∧w'.cell? ⟨w.heap.size,k.toNat-1,none⟩=some (S (fU k))∧Below w.heap.size w w'∧w.heap.size<w'.heap.size:=by
 go_enter Tryz.func243,Tryz.ntmps243
 go_wp2;go_ret;refine⟨rfl,?_,(Qb _ _).alloc (Qn _) _,by simp⟩;have:k=1∨k=2∨k=3∨k=4∨k=5∨k=6:=by omega
 rcases this with rfl|rfl|rfl|rfl|rfl|rfl<;>simp[fU]
theorem eY.far{w':World}{va:Value}(h:eY w n e va vx)(hb:Below B w w')(hn:n<B):eY w' n e va vx:=
 ⟨(hb.cell hn).trans h.c0,(hb.cell hn).trans h.c1,(hb.cell hn).trans h.c2,(hb.cell hn).trans h.c3,(hb.cell hn).trans h.c4,(hb.cell hn).trans h.c5,(hb.cell hn).trans h.c6⟩
abbrev G9(n:Nat)(e:aQ)(N:af)(x:Nat×Nat):List (Option Tmp×Value):=
 [(some 13,.slice (some ⟨x.1,0,none⟩) 6 6),(some 14,.pointer (some ⟨n,0,none⟩)),(some 15,.int .i64 e.aj),(some 16,.int .i64 (e.aj-1)),(some 17,.pointer (some ⟨x.1,e.aj.toNat-1,none⟩)),(some 18,S (fU e.aj)),
  (some 19,.pointer (some ⟨n,1,none⟩)),(some 20,S e.ag),(some 21,.slice (some ⟨x.2,0,none⟩) 2 2),(some 22,S N),(some 23,.tuple #[.int .i64 (N.length:Int),.nilIface])]
theorem qP{N:af}{x:Nat×Nat}:bE (G9 n e N x):=by
 unfold bE;simp
theorem Xse(I:IH)(hI:cB I)(e:aQ)(va vx:Value)(gW:aY lv I va e.au)(j6:aY kQ I vx e.aD)(lu:e.Wf)(nO:e.ag.length≤4294967280)(sO:e.av.length≤4294967280)(hc:oC e)(he:aL e=0)(w:World)(hw:Ok I w):
 Calls Tryz.prog 202 #[fG e va vx] w fun r w'=>r= .returned (.tuple #[S (jN e),.int .i64 0])∧Below w.heap.size w w':=by
 have oH:=Qh (fun w hw=>JP I hI e va vx gW j6 lu nO sO w hw);obtain⟨aa,ca,rfl,_,_,_⟩:=id gW;obtain⟨ax,cx,rfl,_,_,_⟩:=id j6;have k1:=hc.k1;have k6:=hc.k6;have Yh:=hc.ag;have Yi:=hc.av;have hna:=hc.ED;have Dk:=Qh hc.Nt;have Hc:=Qh hc;rw[he]at oH;have i0:IntKind.i64.wrap (e.aj-1)=e.aj-1:=IntWalk.i64_in _ (by omega);have i1:0≤e.aj-1:=by omega
 have i2:e.aj-1<6:=by omega
 clear he hc;go_enter Tryz.func202,Tryz.ntmps202
 go_wp2_with fail
 refine(oH.q _ (hw.alloc _)).mono ?_;rintro e1 w1 ⟨rfl,aG⟩;have lX:=Qh (eO (e:=e) rfl aG);have aS:Ok I w1:=(hw.alloc _).below (Qn _) aG;have aO:=((Qb w.heap.size w).alloc (Qn _) (.cells #[.int .i64 e.aj,S e.ag,.slice aa e.au.length ca,S e.av,.int .i64 e.size,S e.aI,.slice ax e.aD.length cx] 81)).trans (aG.mono (by simp));have kH:Lib.IsBuilder 203 5 w1.heap.size w1.heap.size (Lib.byteCells []) (w1.alloc (.cells #[.pointer none,.slice none 0 0] 203)):=Lib.fresh_isBuilder _ _ w1;have bW:w.heap.size<w1.heap.size:=by have:=aG.size;simp at this;omega
 go_wp2_with fail
 obtain⟨c0,c1,c2,c3,c4,c5,c6⟩:=eY.past lX.q (.cells #[.pointer none,.slice none 0 0] 203);have sU:=tq (fU e.aj) (by have:=Qq e.aj;omega);have MC:=Qq e.aj;have Vb:=tq e.ag (by omega);have Gx:fo [fU e.aj,e.ag]=dL (fU e.aj)++dL e.ag:=by simp[fo]
 have Gr:(fo [fU e.aj,e.ag]).length≤300:=by rw[Gx,List.length_append];omega
 have bT:=Qh (fun b w hv hw=>WO I hI b 0 2 2 [fU e.aj,e.ag] rfl (Qn _) (by decide) w hv (by omega) hw);obtain⟨N,hN⟩:∃N,fo [fU e.aj,e.ag]=N:=⟨_,rfl⟩;rw[hN]at bT Gr;rw[Gx]at hN;have HN:=Qh hN;clear Gx hN;obtain⟨W5,HZ⟩:∃W5,w1.alloc (.cells #[.pointer none,.slice none 0 0] 203)=W5:=⟨_,rfl⟩;have gQ:Below w1.heap.size w1 W5:=by rw[←HZ];exact(Qb _ _).alloc (Qn _) _
 have Kn:Ok I W5:=by rw[←HZ];exact aS.alloc _
 have ME:w1.heap.size<W5.heap.size:=by rw[←HZ];simp
 change Code.wp _ _ _ _ (w1.alloc (.cells #[.pointer none,.slice none 0 0] 203));rw[HZ];rw[HZ]at kH c0 c1;have hkn:(e.aj-1).toNat=e.aj.toNat-1:=by omega
 refine tK (X:=Nat×Nat) (G9 w.heap.size e N) (sD W5 10 0 8 [(e.aj.toNat-1,S (fU e.aj))] [(0,S (fU e.aj)),(1,S e.ag)] (fun w5=>Lib.IsBuilder 203 5 w1.heap.size w1.heap.size (Lib.byteCells N) w5∧w1.heap.size<w5.heap.size∧Below w1.heap.size w1 w5)) (by kernel_rfl) (by kernel_rfl) ?_ ?_ ?_
 ·exact⟨(0,0),sD.start _ _⟩
 ·rintro x s a' w' i cu bU ha hC hi;obtain⟨aJ,oi,dN,aA⟩:=mem_ready.1 hi;rcases i with _|_|_|_|_|_|_|_|_|_|_|i
  rotate_left 11
  ·simp at dN
  all_goals
   have bY:=dN;simp at dN;subst dN;simp[Region.binds]at aA
  ·have hl:s.getD 10 false=false:=gK bU [9,8,5,4,0] (by kernel_rfl) (by rfl) aJ;have h4:s.getD 4 false=false:=gK bU [0] (by kernel_rfl) (by rfl) aJ;have ha:=ha.trans (Xqe (L:=G9 w.heap.size e N x) (M:=G9 w.heap.size e N (w'.heap.size,x.2)) 0 4 rfl (fun j h0 h4=>by
    rcases j with _|_|_|_|_|j<;>first|rfl|(exact absurd rfl h0)|(exact absurd rfl h4)|simp) aJ h4)
   refine wpOp_step bY (fun K' hK=> ?_);rw[if_pos (by rfl)];unfold Oper.wp;simp[go_sem,Oper.upon];refine(Xqi e.aj k1 k6 w').mono ?_;rintro r2 w2 ⟨rfl,wh,aP,fw⟩;exact hK _ _ ⟨(w'.heap.size,x.2),dF (d:=some 13) (v:= .slice (some ⟨w'.heap.size,0,none⟩) 6 6) qP ha rfl aJ,hC.Yg hl aP (by decide) (by decide) (fun p hp=>by simp at hp;subst hp;exact wh)⟩
  ·have e1:a'.tmps[1]?.getD undef= .pointer (some ⟨w.heap.size,0,none⟩):=lT ha (by simp);have hl:s.getD 10 false=false:=gK bU [9,8,5,4,3,2,1] (by kernel_rfl) (by rfl) aJ;refine wpOp_step bY (fun K' hK=> ?_);rw[if_pos (by rfl)];unfold Oper.wp;simp[go_sem,e1,Oper.upon];exact hK _ _ ⟨x,dF (d:=some 14) (v:=(.pointer (some ⟨w.heap.size,0,none⟩))) qP ha rfl aJ,hC.step hl (Qb _ _) (by decide) (by decide) (by decide)⟩
  ·have e14:a'.tmps[14]?.getD undef= .pointer (some ⟨w.heap.size,0,none⟩):=fD (i:=1) qP ha rfl (by simpa using aA) (by simp);have hl:s.getD 10 false=false:=gK bU [9,8,5,4,3,2] (by kernel_rfl) (by rfl) aJ;have c0':=bI (hC.eD hl) c0;refine wpOp_step bY (fun K' hK=> ?_);rw[if_pos (by rfl)];unfold Oper.wp;simp[go_sem,e14,c0',Oper.upon];exact hK _ _ ⟨x,dF (d:=some 15) (v:= .int .i64 e.aj) qP ha rfl aJ,hC.step hl (Qb _ _) (by decide) (by decide) (by decide)⟩
  ·have e15:a'.tmps[15]?.getD undef= .int .i64 e.aj:=fD (i:=2) qP ha rfl (by simpa using aA) (by simp);have hl:s.getD 10 false=false:=gK bU [9,8,5,4,3] (by kernel_rfl) (by rfl) aJ;refine wpOp_step bY (fun K' hK=> ?_);rw[if_pos (by rfl)];unfold Oper.wp;simp[go_sem,e15,Oper.upon,i0];exact hK _ _ ⟨x,dF (d:=some 16) (v:= .int .i64 (e.aj-1)) qP ha rfl aJ,hC.step hl (Qb _ _) (by decide) (by decide) (by decide)⟩
  ·have e13:a'.tmps[13]?.getD undef= .slice (some ⟨x.1,0,none⟩) 6 6:=fD (i:=0) qP ha rfl (by simpa using aA.1) (by simp);have e16:a'.tmps[16]?.getD undef= .int .i64 (e.aj-1):=fD (i:=3) qP ha rfl (by simpa using aA.2) (by simp);have hl:s.getD 10 false=false:=gK bU [9,8,5,4] (by kernel_rfl) (by rfl) aJ;refine wpOp_step bY (fun K' hK=> ?_);rw[if_pos (by rfl)];unfold Oper.wp;simp[go_sem,e13,e16,i2,hkn,k1,Oper.upon];exact hK _ _ ⟨x,dF (d:=some 17) (v:= .pointer (some ⟨x.1,e.aj.toNat-1,none⟩)) qP ha rfl aJ,hC.step hl (Qb _ _) (by decide) (by decide) (by decide)⟩
  ·have e17:a'.tmps[17]?.getD undef= .pointer (some ⟨x.1,e.aj.toNat-1,none⟩):=fD (i:=4) qP ha rfl (by simpa using aA) (by simp);have hl:s.getD 10 false=false:=gK bU [9,8,5] (by kernel_rfl) (by rfl) aJ;have h0:s.getD 0 false=true:=Rj bU [0] 4 0 (by kernel_rfl) (by rfl) (by simpa using aA);have hc:=hC.f1 h0 hl _ (List.mem_singleton.2 rfl);refine wpOp_step bY (fun K' hK=> ?_);rw[if_pos (by rfl)];unfold Oper.wp;simp[go_sem,e17,hc,Oper.upon];exact hK _ _ ⟨x,dF (d:=some 18) (v:=S (fU e.aj)) qP ha rfl aJ,hC.step hl (Qb _ _) (by decide) (by decide) (by decide)⟩
  ·have e1:a'.tmps[1]?.getD undef= .pointer (some ⟨w.heap.size,0,none⟩):=lT ha (by simp);have hl:s.getD 10 false=false:=gK bU [9,8,7,6] (by kernel_rfl) (by rfl) aJ;refine wpOp_step bY (fun K' hK=> ?_);rw[if_pos (by rfl)];unfold Oper.wp;simp[go_sem,e1,Oper.upon];exact hK _ _ ⟨x,dF (d:=some 19) (v:=(.pointer (some ⟨w.heap.size,1,none⟩))) qP ha rfl aJ,hC.step hl (Qb _ _) (by decide) (by decide) (by decide)⟩
  ·have e19:a'.tmps[19]?.getD undef= .pointer (some ⟨w.heap.size,1,none⟩):=fD (i:=6) qP ha rfl (by simpa using aA) (by simp);have hl:s.getD 10 false=false:=gK bU [9,8,7] (by kernel_rfl) (by rfl) aJ;have c1':=bI (hC.eD hl) c1;refine wpOp_step bY (fun K' hK=> ?_);rw[if_pos (by rfl)];unfold Oper.wp;simp[go_sem,e19,c1',Oper.upon];exact hK _ _ ⟨x,dF (d:=some 20) (v:=S e.ag) qP ha rfl aJ,hC.step hl (Qb _ _) (by decide) (by decide) (by decide)⟩
  ·have e18:a'.tmps[18]?.getD undef=S (fU e.aj):=fD (i:=5) qP ha rfl (by simpa using aA.1) (by simp);have e20:a'.tmps[20]?.getD undef=S e.ag:=fD (i:=7) qP ha rfl (by first|simpa using aA.2|simpa using aA.2.1) (by simp);have hl:s.getD 10 false=false:=gK bU [9,8] (by kernel_rfl) (by rfl) aJ;have ha:=ha.trans (Yf (L:=G9 w.heap.size e N x) (M:=G9 w.heap.size e N (x.1,w'.heap.size)) 8 rfl (fun j aZ=>by
    rcases j with _|_|_|_|_|_|_|_|_|j<;>first|rfl|(exact absurd rfl aZ)|simp) aJ)
   refine wpOp_step bY (fun K' hK=> ?_);rw[if_pos (by rfl)];unfold Oper.wp;simp[go_sem,e18,e20,Oper.upon];refine hK _ _ ⟨(x.1,w'.heap.size),dF (d:=some 21) (v:= .slice (some ⟨w'.heap.size,0,none⟩) 2 2) qP ha rfl aJ,hC.at2 hl ((Qb _ _).alloc (Qn _) _) (by decide) (by decide) (fun p hp=> ?_)⟩;have kN:=WN w' [fU e.aj,e.ag] 9;simp at hp;rcases hp with rfl|rfl
   ·exact kN 0 _ rfl
   ·exact kN 1 _ rfl
  ·have e21:a'.tmps[21]?.getD undef= .slice (some ⟨x.2,0,none⟩) 2 2:=fD (i:=8) qP ha rfl (by simpa using aA.1) (by simp);have hl:s.getD 10 false=false:=gK bU [9] (by kernel_rfl) (by rfl) aJ;have I7:=hC.f2 (by simpa using aA.1) hl;have kN:pG w' x.2 0 [fU e.aj,e.ag]:=Xto (I7 (0,_) (by simp)) (I7 (1,_) (by simp));refine wpOp_step bY (fun K' hK=> ?_);rw[if_pos (by rfl)];unfold Oper.wp;simp[go_sem,e21,Oper.upon];refine(bT.q x.2 w' kN (Kn.below (Qn _) (hC.eD hl))).mono ?_;rintro r4 w4 ⟨rfl,bA⟩;exact hK _ _ ⟨x,dF (d:=some 22) (v:=S N) qP ha rfl aJ,hC.step hl bA (by decide) (by decide) (by decide)⟩
  ·have e22:a'.tmps[22]?.getD undef=S N:=fD (i:=9) qP ha rfl (by first|simpa using aA|simpa using aA.1|simpa using aA.2) (by simp);have e5:a'.tmps[5]?.getD undef= .pointer (some ⟨w1.heap.size,0,none⟩):=lT ha (by simp);have hl:s.getD 10 false=false:=jl aJ;have oZ:=hC.eD hl;refine wpOp_step bY (fun K' hK=> ?_);rw[if_pos (by rfl)];unfold Oper.wp;simp[go_sem,e22,e5,Oper.upon];refine(Tryz.Builder_WriteString w1.heap.size w1.heap.size _ _ _ (zk kH oZ) (by rw[ByteArray.size_mk',List.size_toArray];simp[Lib.byteCells];omega) (by have:=oZ.size;omega)).mono ?_;rintro r5 w5 ⟨rfl,sF,dm⟩;refine hK _ _ ⟨x,dF (d:=some 23) (v:= .tuple #[.int .i64 (N.length:Int),.nilIface]) qP ha rfl aJ,sD.end' aJ ⟨.inr ?_,sF.lt,(gQ.trans (oZ.mono (Nat.le_of_lt ME))).trans dm⟩⟩;have:=sF;rw[Lib.strCells_toArray,Lib.byteCells,List.map_nil,List.nil_append]at this;exact this
 rintro x s a' w5 eX ha hC;obtain⟨sF,jR,pV⟩:=hC.fin (eX 10 (by decide));rw[su _ _ _ _ (fun i hi=>by rw[Nat.zero_add];exact eX i (by simpa using hi))]at ha;subst ha;simp only[df,Act.put];clear hC eX;have lU:∀b,w1.heap.size≤b→I b=none:=fun b hb=>aS.fresh hb;have dR:Ok I w5:=aS.below (Qn _) pV;have BO:=Qh sF;have qD:=Qh (lX.q.aX (pV.mono (Qn _)));have dG:=aO.trans (pV.mono aO.size);have vv:=Xqt hna Dk.q;have Hl:=Qh vv;have hz:dZ e.au.length=nk e.au 0:=by rw[nk,List.take_zero,List.flatMap_nil,List.append_nil]
 have Rk:=Qh (fun w hw=>JL I hI e.au.length (by omega) w hw);rw[hz]at Rk;have ake:=vv 0;clear kH sF aG aO pV lX c0 c1 c2 c3 c4 c5 c6 aS hz vv bT i0 i1 i2 sU MC Vb gQ Kn ME hkn HZ;obtain⟨c0,c1,c2,c3,c4,c5,c6⟩:=qD.q;go_wp2_with fail
 refine(Rk.q _ dR).mono ?_;rintro e6 w6 ⟨rfl,fC⟩;have Ko:=zk BO.q fC;have gD:Ok I w6:=dR.below (Qn _) fC;have uX:=Qh (qD.q.aX fC);have iq:=dG.trans (fC.mono dG.size);have Rl:=fC.size;clear fC dG dR qD c0 c1 c2 c3 c4 c5 c6 BO;go_wp2_with fail
 refine(Tryz.Builder_WriteString w1.heap.size w1.heap.size _ _ _ Ko (by rw[ByteArray.size_mk',List.size_toArray];simp[Lib.byteCells];omega) (by omega)).mono ?_;rintro e7 w7 ⟨rfl,pX,ji⟩;have vL:=Qh (show Lib.IsBuilder 203 5 w1.heap.size w1.heap.size (Lib.byteCells (N++nk e.au 0)) w7 from .inr (by
  have:=pX;rw[Lib.strCells_toArray,Lib.byteCells,Lib.byteCells,←List.map_append]at this;exact this))
 have sG:=pX.lt;have Dy:Below w1.heap.size w6 w7:=ji;have gT:Ok I w7:=gD.of_block fun b c hb=>Dy.block b (Nat.lt_of_not_le fun h=>by rw[lU b h]at hb;cases hb);have H8:=Qh (uX.q.far Dy bW);have lF:=iq.trans (Dy.mono (Nat.le_of_lt bW));clear Ko pX ji Dy iq gD uX Rk;obtain⟨c0,c1,c2,c3,c4,c5,c6⟩:=H8.q;have Hv:=Qh gW;clear gW j6;go_wp2_with fail
 clear c0 c1 c2 c3 c4 c5 c6;go_loopw [32] (fun EF wr=> ∃k:Nat,k≤e.au.length∧EF= .int .i64 k∧Lib.IsBuilder 203 5 w1.heap.size w1.heap.size (Lib.byteCells (N++nk e.au k)) wr∧Ok I wr∧eY wr w.heap.size e (.slice aa e.au.length ca) (.slice ax e.aD.length cx)∧Below w.heap.size w wr∧w1.heap.size<wr.heap.size) (fun i _=>e.au.length-(intOf i).toNat)
 case atStart=>exact⟨0,Nat.zero_le _,rfl,vL.q,gT,H8.q,lF,sG⟩
 case round=>
  clear vL H8 lF gT sG Rl jR;obtain⟨k,hk,rfl,oh,gZ,AO,hb,cu⟩:=hrel;have oU:=Qh oh;have H9:=Qh AO;clear oh AO;have wB:=Hl.q k;by_cases hlt:k<e.au.length
  ·obtain⟨x,b,off,cap',dz,dC,c0,c1⟩:=xE Hv.q gZ k hlt;cases dC;have hax:=Dk.q x (by rw[←dz];exact List.getElem_mem hlt);have bT:=Qh (Xow hlt dz);have sW:=tq x.k (by omega);have yj:=tq x.v (by omega);have Gx:fo [x.k,x.v]=dL x.k++dL x.v:=by simp[fo]
   have Hs:=Qh (fun w hv hw=>WO I hI (wr.heap.size+1) 0 2 2 [x.k,x.v] rfl (by simp) (by unfold maxLen;omega) w hv (by rw[Gx];simp;omega) hw);have HS:=Qh (show pG ((wr.alloc (.cells #[S x.k,S x.v] 107)).alloc (.cells #[S x.k,S x.v] 9)) (wr.heap.size+1) 0 [x.k,x.v] by
    have:=WN (wr.alloc (.cells #[S x.k,S x.v] 107)) [x.k,x.v] 9;rwa[show(wr.alloc (.cells #[S x.k,S x.v] 107)).heap.size=wr.heap.size+1 by simp]at this)
   rw[Gx]at Hs;clear dz Gx;generalize dL x.k=p at bT sW Hs;generalize dL x.v=q at bT yj Hs;generalize nk e.au k=u at bT wB oU;go_wp2_with fail
   refine(Hs.q _ HS.q ((gZ.alloc _).alloc _)).mono ?_;rintro e1 w2 ⟨rfl,aG⟩;have pV:Below wr.heap.size wr w2:=(((Qb _ _).alloc (Qn _) _).alloc (by simp) _).trans (aG.mono (by simp;omega));have kH:=zk oU.q pV;have aS:Ok I w2:=gZ.below (Qn _) pV;have lX:=Qh (H9.q.aX pV);have fw:=pV.size;have aO:=hb.trans (pV.mono hb.size);clear aG pV oU c0 c1 HS Hs;go_wp2_with fail
   refine(Tryz.Builder_WriteString w1.heap.size w1.heap.size _ _ _ kH (by rw[ByteArray.size_mk',List.size_toArray];simp[Lib.byteCells];omega) (by omega)).mono ?_;rintro e2 w3 ⟨rfl,jK,aP⟩;have mW:=jK.lt;have zl:=Qh (show Lib.IsBuilder 203 5 w1.heap.size w1.heap.size (Lib.byteCells (N++nk e.au (k+1))) w3 from .inr (by
    have:=jK;rw[Lib.strCells_toArray,Lib.byteCells,Lib.byteCells,←List.map_append,List.append_assoc,←bT.q]at this;exact this))
   have Dy:Below w1.heap.size w2 w3:=aP;have il:Ok I w3:=aS.of_block fun b c hb=>Dy.block b (Nat.lt_of_not_le fun h=>by rw[lU b h]at hb;cases hb);have yS:=Qh (lX.q.far Dy bW);clear kH jK aS lX aP;go_wp2;go_roundw;case rel=>exact⟨k+1,by omega,by go_num,zl.q,il,yS.q,aO.trans (Dy.mono (Nat.le_of_lt bW)),mW⟩
   case measure=>simp[intOf];omega
  ·have Hn:=Qh (Xqu e.au (k:=k) (by omega));rw[Hn.q]at oU wB;have I8:=tq e.av (by omega);have Yj:=Qh (fun w hw=>GZ I hI e.av (by omega) w hw);have Hh:=Qh (show N++vG e.au++dL e.av=jN e by rw[←HN.q];rfl);generalize dL e.av=q at I8 Yj Hh;generalize vG e.au=u at oU wB Hh;obtain⟨c0,c1,c2,c3,c4,c5,c6⟩:=H9.q;go_wp2_with fail
   refine(Yj.q _ gZ).mono ?_;rintro e1 w2 ⟨rfl,aG⟩;have kH:=zk oU.q aG;have fw:=aG.size;have aO:=hb.trans (aG.mono hb.size);clear aG oU c0 c1 c2 c3 c4 c5 c6 H9;go_wp2_with fail
   refine(Tryz.Builder_WriteString w1.heap.size w1.heap.size _ _ _ kH (by rw[ByteArray.size_mk',List.size_toArray];simp[Lib.byteCells];omega) (by omega)).mono ?_;rintro e2 w3 ⟨rfl,jK,aP⟩;have mW:=jK.lt;have zl:=Qh (show Lib.IsBuilder 203 5 w1.heap.size w1.heap.size (Lib.byteCells (jN e)) w3 from .inr (by
    have:=jK;rw[Lib.strCells_toArray,Lib.byteCells,Lib.byteCells,←List.map_append,Hh.q]at this;exact this))
   have bS:=aO.trans (aP.mono (Nat.le_of_lt bW));clear kH jK aP;go_wp2_with fail
   refine(Tryz.Builder_String_any w1.heap.size w1.heap.size _ _ zl.q (Nat.le_of_lt mW)).mono ?_;rintro e3 w4 ⟨rfl,bA⟩;go_wp2;go_ret2;exact⟨rfl,bS.trans (bA.mono (Nat.le_of_lt bW))⟩
