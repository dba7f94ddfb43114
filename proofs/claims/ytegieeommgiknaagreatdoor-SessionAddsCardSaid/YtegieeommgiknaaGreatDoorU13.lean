/- Lemmas for the claim's theorem;conditions: as each says. -/
import Derived.Test.YtegieeommgiknaaGreatDoorU12
import Derived.Laws.MakeOwn
import Derived.RegionTactic
import Derived.Maps.AppendAt
set_option maxHeartbeats 0
set_option maxRecDepth 100000
set_option linter.all false
namespace Go.Proofs.YtegieeommgiknaaGreatDoor
open Go.RowKit
variable{v:Value}{s:Array Bool}{i:Nat}{a:Act}{w:World}{B:Nat}{α:Type}{l:List α}{x:bD}{ts te:TypeId}{bytes:Nat}{vx:Value}{ys:List α}{I:IH}{P:Program}{ops:Array Oper}{Q:Exit→Act→World→Prop}{L:List (Option Tmp×Value)}{d:Option Tmp}{t:Tmp}{ty:TypeId}{o:Oper}{a':Act}{e:TypeId}{n k id g:Nat}{K:Act→World→Prop}{T:Ty α}
def uO:List Int:=[bits .xor .u32 1779033703 16842784,3144134277,1013904242,2773480762,1359893119,2600822924,528734635,1541459225]
def hAt(s:af):Nat→List Int
 |0=>uO
 |i+1=>fq (hAt s i) ((s.drop (64*i)).take 64) ((64*i+64:Nat):Int) false
theorem UZ(s:af):∀i,(hAt s i).length=8
 |0=>rfl
 |_+1=>Oz ..
def nM(s:af):Nat:=(s.length-1) / 64
def jH(s:af):List Int:=fq (hAt s (nM s)) (s.drop (64*nM s)++List.replicate (64-(s.length-64*nM s)) 0) (s.length:Int) true
def tB:Ty Int:=Ty.flat 1 (fun x=> [.int .u8 x]) (fun _=>rfl) (fun _ u h=>by simp at h;subst h;rfl)
def jk(x:Int):List Int:=[x%256,x / 256%256,x / 65536%256,x / 16777216%256]
def jI(G:List Int)(k:Nat):List Int:=(G.take k).flatMap jk
theorem Xqq(G:List Int)(k:Nat)(hk:k<G.length):jI G (k+1)=jI G k++jk (G.getD k 0):=by
 rw[jI,jI,List.take_succ_eq_append_getElem hk,List.flatMap_append];simp[List.getD,List.getElem?_eq_getElem hk]
theorem Xgz(G:List Int):∀k,(jI G k).length≤4*k:=by
 intro k;have:∀L:List Int,(L.flatMap jk).length=4*L.length:=by
  intro L;induction L with
  |nil=>rfl
  |cons x L ih=>rw[List.flatMap_cons,List.length_append,ih];simp[jk];omega
 rw[jI,this];simp;omega
theorem Xja(I:IH)(x:Int):dF tB I [.int .u8 (x%256),.int .u8 (x / 256%256),.int .u8 (x / 65536%256),.int .u8 (x / 16777216%256)] (jk x):=
 (((dF.one (T:=tB) (I:=I) (x:=x%256) (cs:=[.int .u8 (x%256)]) rfl).append (dF.one (T:=tB) (x:=x / 256%256) (cs:=[.int .u8 (x / 256%256)]) rfl)).append (dF.one (T:=tB) (x:=x / 65536%256) (cs:=[.int .u8 (x / 65536%256)]) rfl)).append (dF.one (T:=tB) (x:=x / 16777216%256) (cs:=[.int .u8 (x / 16777216%256)]) rfl)
theorem Xt3{xs:List Value}{l:List Int}(h:dF tB I xs l)(j:Nat)(hj:j<l.length):xs[j]?=some (.int .u8 l[j]):=by
 obtain⟨cs,h1,h2⟩:=h.2 j hj;have e:cs=[.int .u8 l[j]]:=h1;subst e;have:=h2 0 _ rfl;rw[show j*tB.size+0=j by show j*1+0=j;omega]at this;exact this
theorem Xfz:∀(l:List Int) (a:ByteArray),List.foldl (fun r n=>r.push (UInt8.ofNat n.toNat)) a l=⟨a.data++(l.map fun x=>UInt8.ofNat x.toNat).toArray⟩
 | [],a=>by simp
 |x::l,a=>by
  rw[List.foldl_cons,Xfz l];apply ByteArray.ext;simp[ByteArray.push]
theorem Xo4(l:List Int):List.foldl (fun r n=>r.push (UInt8.ofNat n.toNat)) ByteArray.empty l=⟨(l.map fun x=>UInt8.ofNat x.toNat).toArray⟩:=by
 rw[Xfz];apply ByteArray.ext;show(#[]:Array UInt8)++_=_;simp
theorem Xky{E src dst:TypeId}{l:List Int}(hs:P.underlying src=some (.slice e))(he:P.underlying e=some (.int .u8))(hd:P.underlying dst=some .string)(W:World)(h:aQ tB E I W B v l)(hl:0<l.length):
 (convert src dst v).run P W= .ok (S (l.map fun x=>UInt8.ofNat x.toNat)) W:=by
 obtain⟨xs,⟨_,nS⟩,hL⟩:=h;rcases nS with⟨_,h0⟩|⟨g,cap,cur,rfl,_,hg,_,_,_,ht⟩
 ·omega
 ·rw[run_convert_bytes_string _ _ _ e _ _ _ hs he hd,run_bytesToString (ns:=l)]
  ·rw[Xo4]
  ·have hc:=run_loadCells_list (P:=P) W ⟨g,0,none⟩ (l.map fun x=>Value.int .u8 x) (fun j u hu=>by
    have hj:j<l.length:=by simpa using(List.getElem?_eq_some_iff.1 hu).1
    rw[Addr.add_lit,Nat.zero_add,cell_of_row _ _ _ _ _ _ hg];have h1:=Xt3 hL j hj;rw[←ht,List.getElem?_take]at h1;split at h1
    ·rw[←Array.getElem?_toList,h1];simpa[hj]using hu
    ·cases h1)
   simpa using hc
def dW(s:af):af:=(jI (jH s) 8).map fun x=>UInt8.ofNat x.toNat
theorem U0:(Tryz.prog.info? 5).map (fun i=>(i.zero,i.size,i.bytes))=some (some (.int .u8 0),1,1):=by kernel_rfl
theorem Xvd:∃ZZ:Array Value,ZZ.size=32∧ ∀W,(Instr.makeSlice 144 (.int .i64 0) (.int .i64 32)).run Tryz.prog W= .ok (.slice (some ⟨W.heap.size,0,none⟩) 0 32) (W.alloc (.cells ZZ 5)):=by
 obtain⟨i,h1,h2,h3,h4⟩:=info_parts U0;refine⟨madeCells (Value.int .u8 0).cells (32*i.size),by rw[size_madeCells,h3],fun W=> ?_⟩;exact run_make (P:=Tryz.prog) W 144 5 i _ Tryz.underlying144 h1 h2 .i64 .i64 0 32 (by omega) (by omega) (by rw[h4];omega) (by omega)
theorem U1:eZ Tryz.prog 144 5 tB 1:=eZ.of Tryz.underlying144 U0 rfl (by decide) rfl
theorem Xpo(b off cap:Nat)(l:List af)(s:af)(hl:l.flatten=s)(hs:s.length≤140737488355328)(w:World)(hc:∀(j:Nat) x,l[j]?=some x→w.cell? ⟨b,off+j,none⟩=some (S x))(fu:l.length≤cap)(qW:b<w.heap.size)(hn:l.length≤1000000):
 Calls Tryz.prog 60 #[.slice (some ⟨b,off,none⟩) l.length cap] w fun e w'=>e= .returned (S (dW s))∧Below w.heap.size w w':=by
 have Hj:=Qh (Xsk b off cap l w hc fu qW hn (by rw[hl];exact hs));rw[hl]at Hj;clear hc hl fu hn qW;go_enter Tryz.func60,Tryz.ntmps60
 go_wp2_with fail
 refine Hj.O.mono ?_;rintro e w0 ⟨rfl,tX⟩;clear Hj;go_wp2_with fail
 refine(Xi1 _).mono ?_;rintro e w1 ⟨rfl,U2⟩;have aG:=tX.trans (U2.mono tX.size);clear tX U2;rw[show row gL=#[.int .u32 1779033703,.int .u32 3144134277,.int .u32 1013904242,.int .u32 2773480762,.int .u32 1359893119,.int .u32 2600822924,.int .u32 528734635,.int .u32 1541459225]from rfl];go_wp2_with fail
 obtain⟨B,rU⟩:∃B,w1.heap.size=B:=⟨_,rfl⟩;have AC:w.heap.size≤B:=by rw[←rU];exact aG.size
 have bI:=Qh (show(w1.alloc (.cells (row uO) 162)).heap[B]?=some (.cells (row (hAt s 0)) 162 (0,0)) by rw[←rU];exact heap_alloc_new _ _);have Li:=Qh (show Below w.heap.size w (w1.alloc (.cells (row uO) 162))from aG.alloc aG.size _);rw[rU];clear aG rU;obtain⟨L,hL⟩:∃L,nM s=L:=⟨_,rfl⟩;have hL':L=(s.length-1) / 64:=hL.symm;have HL:=Qh hL;clear hL;go_loopw [5] (fun s5 wr=> ∃i:Nat,i≤L∧s5= .int .i64 (64*(i:Int))∧Below w.heap.size w wr∧B<wr.heap.size∧wr.heap[B]?=some (.cells (row (hAt s i)) 162 (0,0))) (fun i _=>s.length-(intOf i).toNat)
 case atStart=>exact⟨0,Nat.zero_le _,rfl,Li.O,(by have:=bI.O;exact(Qg this)),bI.O⟩
 case round=>
  clear bI Li;obtain⟨i,hi,rfl,hb,wP,hB⟩:=hrel;by_cases hlt:i<L
  ·have hlen:64*i+64<s.length:=by omega
   obtain⟨e0,e1,e2,e3,e4,e5,e6,e7,he⟩:=Pv (UZ s i);have He:=Qh he;rw[he]at hB;clear he;have d0:wr.cell? ⟨B,0,none⟩=some (.int .u32 e0):=(cell_of_row wr B 0 _ _ _ hB).trans rfl;have d1:wr.cell? ⟨B,1,none⟩=some (.int .u32 e1):=(cell_of_row wr B 1 _ _ _ hB).trans rfl;have d2:wr.cell? ⟨B,2,none⟩=some (.int .u32 e2):=(cell_of_row wr B 2 _ _ _ hB).trans rfl;have d3:wr.cell? ⟨B,3,none⟩=some (.int .u32 e3):=(cell_of_row wr B 3 _ _ _ hB).trans rfl;have d4:wr.cell? ⟨B,4,none⟩=some (.int .u32 e4):=(cell_of_row wr B 4 _ _ _ hB).trans rfl;have d5:wr.cell? ⟨B,5,none⟩=some (.int .u32 e5):=(cell_of_row wr B 5 _ _ _ hB).trans rfl;have d6:wr.cell? ⟨B,6,none⟩=some (.int .u32 e6):=(cell_of_row wr B 6 _ _ _ hB).trans rfl;have d7:wr.cell? ⟨B,7,none⟩=some (.int .u32 e7):=(cell_of_row wr B 7 _ _ _ hB).trans rfl;have z0:=frozen_of_row wr B 0 _ _ hB;have z1:=frozen_of_row wr B 1 _ _ hB;have z2:=frozen_of_row wr B 2 _ _ hB;have z3:=frozen_of_row wr B 3 _ _ hB;have z4:=frozen_of_row wr B 4 _ _ hB;have z5:=frozen_of_row wr B 5 _ _ hB;have z6:=frozen_of_row wr B 6 _ _ hB;have z7:=frozen_of_row wr B 7 _ _ hB;have HB:=Qh hB;clear hB;go_wp2_with fail
   have AJ:IntKind.i64.wrap (64*(i:Int)+64)=64*(i:Int)+64:=IntWalk.i64_in _ (by omega);have Kj:IntKind.u64.wrap (64*(i:Int)+64)=64*(i:Int)+64:=IntWalk.u64_in _ (by omega);have uW:(0:Int)≤64*(i:Int)+64:=by omega
   have Ob:64*(i:Int)+64≤(s.length:Int):=by omega
   have JO:(0:Int)≤64*(i:Int):=by omega
   have hw6:64*(i:Int)≤64*(i:Int)+64:=by omega
   have hw7:(64*(i:Int)+64).toNat=64*i+64:=by omega
   have hw8:(64*(i:Int)).toNat=64*i:=by omega
   have hw9:64*i+64-64*i=64:=by omega
   have qp:((s.drop (64*i)).take 64).length=64:=by simp;omega
   obtain⟨c0,c1,c2,c3,c4,c5,c6,c7,hc⟩:=Pv (Oz [e0,e1,e2,e3,e4,e5,e6,e7] ((s.drop (64*i)).take 64) (64*(i:Int)+64) false);have Hc:=Qh hc;clear hc;go_region_law (go_simp;go_at_call 112;refine(Xg6 [e0,e1,e2,e3,e4,e5,e6,e7] rfl ((s.drop (64*i)).take 64) qp (64*(i:Int)+64) false _).mono ?_;rintro e w' ⟨rfl,vO⟩;rw[Hc.O,show row [c0,c1,c2,c3,c4,c5,c6,c7]=#[.int .u32 c0,.int .u32 c1,.int .u32 c2,.int .u32 c3,.int .u32 c4,.int .u32 c5,.int .u32 c6,.int .u32 c7]from rfl];have y0:w'.cell? ⟨B,0,none⟩=some (.int .u32 e0):=(vO.cell wP).trans d0;have y1:w'.cell? ⟨B,1,none⟩=some (.int .u32 e1):=(vO.cell wP).trans d1;have y2:w'.cell? ⟨B,2,none⟩=some (.int .u32 e2):=(vO.cell wP).trans d2;have y3:w'.cell? ⟨B,3,none⟩=some (.int .u32 e3):=(vO.cell wP).trans d3;have y4:w'.cell? ⟨B,4,none⟩=some (.int .u32 e4):=(vO.cell wP).trans d4;have y5:w'.cell? ⟨B,5,none⟩=some (.int .u32 e5):=(vO.cell wP).trans d5;have y6:w'.cell? ⟨B,6,none⟩=some (.int .u32 e6):=(vO.cell wP).trans d6;have y7:w'.cell? ⟨B,7,none⟩=some (.int .u32 e7):=(vO.cell wP).trans d7;have g0:w'.frozen? ⟨B,0,none⟩=false:=(vO.frozen wP).trans z0;have g1:w'.frozen? ⟨B,1,none⟩=false:=(vO.frozen wP).trans z1;have g2:w'.frozen? ⟨B,2,none⟩=false:=(vO.frozen wP).trans z2;have g3:w'.frozen? ⟨B,3,none⟩=false:=(vO.frozen wP).trans z3;have g4:w'.frozen? ⟨B,4,none⟩=false:=(vO.frozen wP).trans z4;have g5:w'.frozen? ⟨B,5,none⟩=false:=(vO.frozen wP).trans z5;have g6:w'.frozen? ⟨B,6,none⟩=false:=(vO.frozen wP).trans z6;have g7:w'.frozen? ⟨B,7,none⟩=false:=(vO.frozen wP).trans z7;have Hb':=Qh vO;clear vO)
   have Aj:=(Hb'.O.block B wP).trans HB.O;have hv:=heap_setCell (i:=7) c7 (heap_setCell (i:=6) c6 (heap_setCell (i:=5) c5 (heap_setCell (i:=4) c4 (heap_setCell (i:=3) c3 (heap_setCell (i:=2) c2 (heap_setCell (i:=1) c1 (heap_setCell (i:=0) c0 (Aj))))))));have aT:Below w.heap.size w w':=hb.drew.trans (Hb'.O.mono hb.size);have acz:=Below.setCell (Below.setCell (Below.setCell (Below.setCell (Below.setCell (Below.setCell (Below.setCell (Below.setCell (aT) (p:=⟨B,0,none⟩) AC (.int .u32 c0)) (p:=⟨B,1,none⟩) AC (.int .u32 c1)) (p:=⟨B,2,none⟩) AC (.int .u32 c2)) (p:=⟨B,3,none⟩) AC (.int .u32 c3)) (p:=⟨B,4,none⟩) AC (.int .u32 c4)) (p:=⟨B,5,none⟩) AC (.int .u32 c5)) (p:=⟨B,6,none⟩) AC (.int .u32 c6)) (p:=⟨B,7,none⟩) AC (.int .u32 c7);have afj:=Hb'.O.size;go_wp2;go_roundw;case rel=>exact⟨i+1,by omega,by go_num,acz,(by simp[World.setCell];simp at afj;omega),(by rw[hAt,He.O,show((64*i+64:Nat):Int)=64*(i:Int)+64 by omega,Hc.O];exact hv)⟩
   case measure=>simp[intOf];omega
  ·have Oe:i=L:=by omega
   have ul:s.length≤64*i+64:=by omega
   have Mj:64*i≤s.length:=by omega
   have AJ:IntKind.i64.wrap (64-((s.length:Int)-64*(i:Int)))=64-((s.length:Int)-64*(i:Int)):=IntWalk.i64_in _ (by omega);have Kj:IntKind.i64.wrap ((s.length:Int)-64*(i:Int))=(s.length:Int)-64*(i:Int):=IntWalk.i64_in _ (by omega);have uW:64*(i:Int)≤(s.length:Int):=by omega
   have Ob:(0:Int)≤64*(i:Int):=by omega
   have JO:(64*(i:Int)).toNat=64*i:=by omega
   obtain⟨c,aop⟩:∃c:Nat,(64:Int)-((s.length:Int)-64*(i:Int))=c:=⟨64-(s.length-64*i),by omega⟩;have hcn:c=64-(s.length-64*i):=by omega
   have HB:=Qh hB;clear hB;have Hie:=Qh (show nM s=i by rw[HL.O,Oe]);have Hcn:=Qh hcn;have rJ:c≤64:=by omega
   have Ku:(Lib.repeatL [0] (c:Int).toNat).length≤100:=by rw[Lib.repeatL_length];simp;omega
   have afk:(Lib.repeatL [0] c).length≤100:=by rw[Lib.repeatL_length];simp;omega
   clear Oe hL' hcn hlt hi;go_wp2_with fail
   refine wp_region_quiet_below (by kernel_rfl) (by kernel_rfl) ?_;repeat(go_big_quiet_step ((exact Calls.regrown_of (Xqr [0] c _ (by omega) (by omega) (by simp;omega)))))
   refine wpQuiet_nil ?_;intro w2 bJ;have aL:Below (wr).heap.size (wr) w2:=by
    obtain⟨pq,rfl⟩:=bJ;exact below_regrown _ _ _
   clear bJ;obtain⟨PB,hPB⟩:∃PB,List.take (s.length-64*i) (List.drop (64*i) s)++Lib.repeatL [0] c=PB:=⟨_,rfl⟩;rw[hPB];have HPB:=Qh (show PB=s.drop (64*i)++List.replicate (64-(s.length-64*i)) 0 by rw[←hPB,Xhx,List.take_of_length_le (by simp),Hcn.O]);have U3:PB.length=64:=by rw[HPB.O];simp;omega
   clear hPB Ku afk;have Dt:=UZ s i;have tQ:=Qh (show jH s=fq (hAt s i) PB (s.length:Int) true by rw[jH,Hie.O,HPB.O]);have gV:=(aL.block B wP).trans HB.O;have gJ:B<w2.heap.size:=by have:=aL.size;omega
   have Mm:Below w.heap.size w w2:=hb.trans (aL.mono hb.size);generalize hAt s i=F at gV Dt tQ;have yI:(Tryz.prog.info? 162).map (·.size)=some (row F).size:=by rw[bZ,Dt];kernel_rfl
   have asZ:IntKind.u64.wrap (s.length:Int)=(s.length:Int):=IntWalk.u64_in _ (by omega);clear aL HB;go_wp2_with (refine wpList_load_row rfl 162 _ rfl B rfl 162 (row F) (0,0) _ gV Tryz.underlying162 rfl yI ?_)
   refine(Xg6 F Dt PB U3 (s.length:Int) true _).mono ?_;rintro e w3 ⟨rfl,dO⟩;rw[←tQ.O];have Lj:(jH s).length=8:=Oz ..;obtain⟨G,hG⟩:∃G,jH s=G:=⟨_,rfl⟩;have HG:=Qh hG;rw[hG]at Lj ⊢;clear hG;have hB3:=(dO.block B gJ).trans gV;have oD:B<w3.heap.size:=by have:=dO.size;omega
   have U4:Below w.heap.size w w3:=Mm.trans (dO.mono Mm.size);have U5:(Tryz.prog.info? 162).map (·.size)=some (row G).size:=by rw[bZ,Lj];kernel_rfl
   have Gg:(row F).size=(row G).size:=by rw[bZ,bZ,Dt,Lj]
   have xL:(row G).all (·.oneCell')=true:=by simp[row,Value.oneCell']
   clear dO tQ;go_upto_region 10 with(refine wpList_store_row rfl 162 _ _ rfl B (row G) rfl rfl 162 (row F) hB3 U5 Gg xL ?_)
   have hB4:(w3.setRow B (row G)).heap[B]?=some (.cells (row G) 162 (0,0)):=setRow_heap _ _ _ _ _ _ hB3;have Ll:Below w.heap.size w (w3.setRow B (row G)):=below_setRow U4 AC _;have eQ:B<(w3.setRow B (row G)).heap.size:=by simpa using oD
   generalize w3.setRow B (row G)=w4 at hB4 Ll eQ;clear hB3 U4 oD;obtain⟨ZZ,hZZ,kr⟩:=Xvd;have YD:(w4.alloc (.cells ZZ 5)).heap[B]?=some (.cells (row G) 162 (0,0)):=(Below.heap_alloc _ _ _ eQ).trans hB4;go_wp2_with (refine wpList_load_row rfl 162 _ rfl B rfl 162 (row G) (0,0) _ YD Tryz.underlying162 rfl U5 ?_)
   have Eg:w.heap.size≤w4.heap.size:=Ll.size;have bI:=Qh (show aQ tB 5 (fun _=>none) (w4.alloc (.cells ZZ 5)) w4.heap.size (.slice (some ⟨w4.heap.size,0,none⟩) 0 32) []from⟨[],World.ownsRow_made w4 ZZ 32 (Qn _) (by decide) (by rw[hZZ];rfl),dF.nil _ _⟩);have Li:=Qh (Ll.alloc Eg (.cells ZZ 5));obtain⟨B0,Lm⟩:∃B0,w4.heap.size=B0:=⟨_,rfl⟩;have kX:B0≤(w4.alloc (.cells ZZ 5)).heap.size:=by simp;omega
   rw[Lm]at Eg bI ⊢;clear hB4 YD Ll eQ kr;go_loopw [7,58] (fun s7 s58 wr=> ∃k:Nat,k≤8∧s58= .int .i64 k∧aQ tB 5 (fun _=>none) wr B0 s7 (jI G k)∧Below w.heap.size w wr∧B0≤wr.heap.size) (fun _ k _=>8-(intOf k).toNat)
   case atStart=>exact⟨0,Nat.zero_le _,rfl,bI.O,Li.O,kX⟩
   case round=>
    clear bI Li kX;obtain⟨k,hk,rfl,bU,Zv,U6⟩:=hrel;by_cases j5:k<8
    ·have JF:=Xdv (P:=Tryz.prog) Tryz.underlying162 Tryz.underlying25 rfl (by kernel_rfl) k j5 (sF (l:=G) (i:=k) (by omega));have JY:=Qh (Xqq G k (by omega));have Gt:=Xgz G k;generalize G.getD k 0=x at JF JY;have hwl:(jk x).length=4:=rfl;have kK:=Xja (fun _=>none) x;go_wp2_with (at_builtin;refine Xi8 (w0:=wr) U1 rfl _ _ rfl _ _ _ rfl bU (jk x) [.int .u8 (x%256),.int .u8 (x / 256%256),.int .u8 (x / 65536%256),.int .u8 (x / 16777216%256)] _ rfl kK (by rw[hwl];omega) (by rw[hwl];omega) (by rw[hwl];omega) U6 ?_)
     intro v5 w5 iV hg5;have df:=Below.own Zv hg5 bU Eg U6;have kX:=hg5.size;go_wp2;go_roundw;case rel=>exact⟨k+1,by omega,by go_num,by rw[JY.O];exact iV,df,by omega⟩
     case measure=>simp[intOf];omega
    ·have mJ:k=8:=by omega
     have acB:=Qh (show(jI G k).map (fun x=>UInt8.ofNat x.toNat)=dW s by rw[dW,HG.O,mJ]);have xX:0<(jI G k).length:=by rw[mJ];match G,Lj with|_::_,_=>simp[jI,jk]
     have Td:=Xky (P:=Tryz.prog) Tryz.underlying144 Tryz.underlying5 Tryz.underlying9 _ bU xX;rw[acB.O]at Td;clear bU xX mJ;go_wp2;go_ret;exact⟨rfl,Zv⟩
structure bV where
 num:Int
 aA:Int
 bE:af
 aB:List bD
 aU:af
 sl:af
def kT(e:bD):af:=fA (gp e.av)++fA e.aj++zP e.ag++fA e.target
def NB(l:List Xt):af:=l.flatMap fun x=>gm x.s++gm x.o++gm x.n
def yJ(e:bD):af:=fA (kT e)++gm e.size++fA e.aD++gm e.aC.length++NB e.aC
def rW(s:bV):af:=gm s.num++gm s.aA++fA s.bE++(gm s.aU.length++fA (dW s.aU)++gm s.aB.length)
def lu(s:bV):af:=rW s++s.aB.flatMap yJ
def IY(s:bV):Int:=if s.num<1∨255<s.num∨s.aA<0∨1000000000<s.aA then 2 else if s.bE≠[]∧s.bE.length≠32 then 1 else 0
def zS:List bD→Int
 | []=>0
 |e::l=>if aX e≠0 then aX e else zS l
def IZ(s:bV):Int:=if IY s≠0 then IY s else if 14680064<s.aU.length∨400<s.aB.length then 6 else if zS s.aB≠0 then zS s.aB else if 2000<s.sl.length then 6 else 0
def u6(s:bV):af×Int:=if IZ s≠0 then([],IZ s)else(dW (lu s),0)
structure oC where
 aF:List bD
 holds:List Ho
def rE(s:oC)(e:bD)(d:Int):Int:=if 3<e.av∨(gu s.aF e.aj).isSome=true then kE s.holds e.av e.aj d else 0
def fK(s:oC)(e:bD)(d:Int):oC×Int:=
 if(dh s.aF e).2≠0 then(s,(dh s.aF e).2)
 else if rE s e d≠0 then(s,rE s e d)
 else if(appH s.holds e d).2≠0 then(s,(appH s.holds e d).2)
 else(⟨(dh s.aF e).1,(appH s.holds e d).1⟩,0)
def aN:oC:=⟨[],[]⟩
def nN(s:oC)(d:Int)(l:List bD):oC:=l.foldl (fun s e=>(fK s e d).1) s
def aP(s:oC)(l:List bV):oC:=l.foldl (fun s x=>nN s x.aA x.aB) s
structure Py (n:Nat) (s:oC):Prop where
 aF:Ng s.aF
 holds:yf s.holds
 Bc:s.aF.length≤n
 hlen:s.holds.length≤n
theorem Xwc:Py 0 aN:=⟨(Xxe []).1 rfl,Xsq,Qn _,Qn _⟩
theorem Py.mono{m:Nat}{s:oC}(h:Py n s)(hm:n≤m):Py m s:=⟨h.aF,h.holds,Nat.le_trans h.Bc hm,Nat.le_trans h.hlen hm⟩
theorem Xfl{t:List bD}{e:bD}(h:(dh t e).2=0):dh t e=((dh t e).1,0):=Prod.ext rfl h
theorem Xt5{s:oC}(h:Py n s)(e:bD)(d:Int):Py (n+1) (fK s e d).1:=by
 unfold fK;split
 ·exact h.mono (by omega)
 ·rename_i h1;split
  ·exact h.mono (by omega)
  ·split
   ·exact h.mono (by omega)
   ·have ha:=Xfl (t:=s.aF) (e:=e) (by omega);obtain⟨wS,hx⟩:=tK.1 ha;have hl:=Xwy s.aF e;have hh:appH s.holds e d=((appH s.holds e d).1,(appH s.holds e d).2):=rfl;refine⟨Xtr h.aF ha,Xxn h.holds wS.OY hh,?_,?_⟩
    ·rw[hx];have:=h.Bc;show(Nn s.aF e).length≤_;omega
    ·have:=Xvi hh;have:=h.hlen;show(appH s.holds e d).1.length≤_;omega
def acD(l:List bV)(x:Xt):Bool:=x.s==0 || (decide (x.s≤l.length)&&decide (x.o+x.n≤((l[(x.s-1).toNat]?).map fun s=>(s.aU.length:Int)).getD 0))
def Lp(l:List bV)(e:bD):Bool:=e.aC.all (acD l)
def EL(l:List bV)(d:Int):oC→List bD→oC×Int
 |s,[]=>(s,0)
 |s,e::es=>if(fK s e d).2≠0 then((fK s e d).1,(fK s e d).2)else if Lp l e=false then((fK s e d).1,2)else EL l d (fK s e d).1 es
def BM(l:List bV):Nat→oC→af→Int→List bV→Int
 |_,_,_,_,[]=>0
 |i,s,bE,aA,x::xs=>
  if(u6 x).2≠0 then(u6 x).2
  else if x.num≠i+1∨x.aA<aA then 14
  else if x.bE≠bE then 20
  else if(EL (l.take (i+1)) x.aA s x.aB).2≠0 then(EL (l.take (i+1)) x.aA s x.aB).2
  else BM l (i+1) (EL (l.take (i+1)) x.aA s x.aB).1 (u6 x).1 x.aA xs
def aow(l:List bV):Int:=BM l 0 aN [] 0 l
structure Pz where
 s:Int
 d:Int
 e:bD
def I5(s:oC)(p:af)(e:bD):Bool:=(decide (e.av≤3)&&e.aj==p) || (e.av==4&&(gu s.aF p).isSome&&under p e.aj)
def U7(num d:Int)(p:af):oC→List bD→List Pz
 |_,[]=> []
 |s,e::es=>(if I5 s p e then [⟨num,d,e⟩]else [])++U7 num d p (fK s e d).1 es
def EM(p:af):oC→List bV→List Pz
 |_,[]=> []
 |s,x::xs=>U7 x.num x.aA p s x.aB++EM p (nN s x.aA x.aB) xs
def aox(l:List bV)(p:af):List Pz:=EM p aN l
def acE(d:Int):List bV→Nat
 | []=>0
 |x::l=>if d<x.aA then 0 else acE d l+1
structure sS (x:bD):Prop where
 k1:1≤x.av
 k6:x.av≤6
 La:x.ag.length≤16
 UH:∀a∈x.ag,a.k.length≤32∧a.v.length≤64
 target:x.target.length≤200
 s0:0≤x.size
 s1:x.size≤65536
 aD:x.aD.length≤32
 aj:x.aj.length≤200
 YE:∀y∈x.aC,0≤y.s∧y.s≤255∧0≤y.o∧y.o≤2147483647∧1≤y.n∧y.n≤65536
theorem Xhh{f:Bool}:∀{l:List Xt},dL f l=0→ ∀y∈l,dQ y=false
 | [],_,y,hy=>by cases hy
 |x::l,h,y,hy=>by
  unfold dL at h;split at h
  ·omega
  split at h
  ·omega
  rename_i k;rcases List.mem_cons.1 hy with rfl|hy
  ·simpa using k
  ·exact Xhh h y hy
theorem Xt0{x:Xt}(h:dQ x=false):0≤x.s∧x.s≤255∧0≤x.o∧x.o≤2147483647∧1≤x.n∧x.n≤65536:=by
 unfold dQ at h;simp only[Bool.or_eq_false_iff,decide_eq_false_iff_not]at h;omega
theorem R6(h:aX x=0):sS x:=by
 have hk:=JV h;have Cq:=(Iu hk.2.2.1).1;unfold aX at h;rw[if_neg (by omega)]at h;by_cases h1:aW x.aj≠0
 ·rw[if_pos h1]at h;exact absurd h h1
 rw[if_neg h1]at h;split at h
 ·omega
 by_cases h2:oP x.ag≠0
 ·rw[if_pos h2]at h;exact absurd h h2
 rw[if_neg h2]at h;split at h
 ·omega
 rename_i h3;split at h
 ·omega
 rename_i h4;split at h
 ·omega
 rename_i h5;by_cases h6:dL (x.av==1) x.aC≠0
 ·rw[if_pos h6]at h;exact absurd h h6
 have hc:=Xxc (l:=x.ag) (by omega);refine⟨by omega,by omega,hc.1,hc.2,?_,by omega,by omega,?_,by omega,fun y hy=>Xt0 (Xhh (f:=x.av==1) (Classical.byContradiction h6) y hy)⟩
 ·have ht:dx x=true:=by
   cases hh:dx x with
   |true=>rfl
   |false=>exact absurd (.inr hh) h3
  unfold dx at ht;split at ht
  ·simp at ht;omega
  ·split at ht
   ·have:=Xgs ht;omega
   ·have:x.target=[]:=by simpa using ht
    rw[this];simp
 ·by_cases ql:x.av=1
  ·have:¬(x.av=1∧x.aD.length≠32):=fun q=>h5 (.inl q);omega
  ·have:¬(x.av≠1∧x.aD≠[]):=fun q=>h5 (.inr q);have hd:x.aD=[]:=Classical.byContradiction fun q=>this ⟨ql,q⟩;rw[hd];simp
theorem Av{n:Int}(h0:0≤n)(h1:n≤140737488355200):(gm n).length≤17:=by
 obtain⟨m,rfl⟩:=Int.eq_ofNat_of_zero_le h0;exact Gf m (by omega)
theorem Xim(h:sS x):(kT x).length≤2700:=by
 have h1:=Xvf h.La h.UH;have h2:=Ym x.av;have h3:=vD (gp x.av) (by omega);have h4:=vD x.aj (by have:=h.aj;omega);have h5:=vD x.target (by have:=h.target;omega);have h6:=h.aj;have h7:=h.target;unfold kT;simp only[List.length_append];omega
def Lr(e:bD):af:=fA (kT e)++gm e.size++fA e.aD++gm e.aC.length
def qF(e:bD)(k:Nat):af:=Lr e++NB (e.aC.take k)
theorem Xmo{e:bD}(hk:k<e.aC.length){x:Xt}(hx:e.aC[k]=x):qF e (k+1)=qF e k++(gm x.s++gm x.o++gm x.n):=by
 rw[qF,qF,List.take_succ_eq_append_getElem hk,hx,NB,List.flatMap_append,←List.append_assoc];simp[NB]
theorem Xkt(e:bD)(h:e.aC.length≤k):qF e k=yJ e:=by rw[qF,List.take_of_length_le h];rfl
theorem Xmn(e:bD):qF e 0=Lr e:=by rw[qF,List.take_zero];simp[NB]
theorem Xu0(h:sS x)(hx:x.aC.length≤1000):(Lr x).length≤2900:=by
 have h1:=Xim h;have h2:=vD (kT x) (by omega);have h3:=Av h.s0 (by have:=h.s1;omega);have h4:=vD x.aD (by have:=h.aD;omega);have h5:=Gf x.aC.length (by omega);have h6:=h.aD;unfold Lr;simp only[List.length_append];omega
theorem Xq5:∀{l:List Xt},(∀y∈l,0≤y.s∧y.s≤255∧0≤y.o∧y.o≤2147483647∧1≤y.n∧y.n≤65536)→(NB l).length≤51*l.length
 | [],_=>by simp[NB]
 |y::l,h=>by
  have h1:=h y (List.mem_cons_self ..);have h2:=Xq5 fun z hz=>h z (List.mem_cons_of_mem _ hz);have h3:=Av (n:=y.s) (by omega) (by omega);have h4:=Av (n:=y.o) (by omega) (by omega);have h5:=Av (n:=y.n) (by omega) (by omega);unfold NB at*;simp only[List.flatMap_cons,List.length_append,List.length_cons];omega
theorem Xks(h:sS x)(hx:x.aC.length≤1000)(k:Nat):(qF x k).length≤54000:=by
 have h1:=Xu0 h hx;have h2:=Xq5 (l:=x.aC.take k) fun y hy=>h.YE y (List.mem_of_mem_take hy);have h3:(x.aC.take k).length≤x.aC.length:=by simp;omega
 unfold qF;rw[List.length_append];omega
theorem Xku(h:sS x)(hx:x.aC.length≤1000):(yJ x).length≤54000:=by
 rw[←Xkt x (Qn _)];exact Xks h hx _
section
variable {P:Program} {ops:Array Oper} {md:Region.Mode} {Q:Exit→Act→World→Prop}
def xM(s:Array Bool):Nat:=s.toList.countP (!·)
theorem Xjv:∀(l:List Bool) (i:Nat),l[i]?=some false→(l.set i true).countP (!·)+1=l.countP (!·)
 | [],_,h=>absurd h (by simp)
 |b::l,0,h=>by
  simp at h;subst h;simp
 |b::l,i+1,h=>by
  have:=Xjv l i (by simpa using h);simp only[List.set_cons_succ,List.countP_cons];omega
theorem Xjq(h:s.getD i true=false):s.toList[i]?=some false:=by
 rw[Array.getElem?_toList];rw[Array.getD_eq_getD_getElem?]at h;cases hs:s[i]? with
 |none=>rw[hs]at h;simp at h
 |some b=>rw[hs]at h;simpa using h
theorem Xl9(h:s.getD i true=false):xM (s.setIfInBounds i true)+1=xM s:=by
 unfold xM;rw[Array.toList_setIfInBounds];exact Xjv _ _ (Xjq h)
theorem Xsm(h:s.getD i true=false):0<xM s:=by have:=Xl9 h;omega
theorem Xrc{J:Array Bool→Act→World→Prop}(xZ:∀s a w i,J s a w→i∈Region.ready md ops s→wpOp P ops Q i (fun a' w'=>J (s.setIfInBounds i true) a' w') a w)
 (vR:∀s a w,J s a w→Region.ready md ops s=[]→Q .normal a w):∀(f:Nat) (s:Array Bool) (a:Act) (w:World),xM s≤f→J s a w→wpAny P md ops Q f s a w:=by
 intro f;induction f with
 |zero=>
  intro s a w hf hJ;have hr:Region.ready md ops s=[]:=by
   cases h:Region.ready md ops s with
   |nil=>rfl
   |cons j l=>
    have:=Xsm (mem_ready.1 (show j∈Region.ready md ops s by rw[h];exact List.mem_cons_self ..)).1;omega
  exact⟨hr,vR s a w hJ hr⟩
 |succ f ih=>
  intro s a w hf hJ;refine⟨vR s a w hJ,fun i hi=>wpOp_mono (fun a' w' h=>ih _ _ _ ?_ h) (xZ s a w i hJ hi)⟩;have:=Xl9 (mem_ready.1 hi).1;omega
theorem Xn3(n:Nat):xM (Array.replicate n false)=n:=by
 simp[xM,List.countP_replicate]
theorem Xj2(J:Array Bool→Act→World→Prop)(hm:P.follows .mixedOrders=true)(h0:J (Array.replicate ops.size false) a {w with drawn:=w.drawn+1})
 (xZ:∀s a w i,J s a w→i∈Region.ready .any ops s→wpOp P ops Q i (fun a' w'=>J (s.setIfInBounds i true) a' w') a w)
 (vR:∀s a w,J s a w→Region.ready .any ops s=[]→Q .normal a w):(Code.region id ops true).wp P Q a w:=
 wp_region_any hm (Xrc xZ vR _ _ _ _ (by rw[Xn3];exact Qn _) h0)
def dN:List (Option Tmp×Value)→Nat→Array Bool→Act→Act
 | [],_,_,a=>a
 |(d,v)::l,k,s,a=>dN l (k+1) s (if s.getD k false then a.put d v else a)
theorem Xr9(a:Act){e:Option Tmp}(u v:Value)(h:∀t,d=some t→e≠some t):(a.put d u).put e v=(a.put e v).put d u:=by
 cases d with
 |none=>rfl
 |some d=>
  cases e with
  |none=>rfl
  |some e=>
   have bq:d≠e:=fun h'=>h d rfl (by rw[h']);simp only[Act.put];rw[Array.setIfInBounds_comm _ _ bq]
def bC(l:List (Option Tmp×Value)):Prop:=l.Pairwise fun p q=> ∀t,p.1=some t→q.1≠some t
theorem Xkp:∀(l:List (Option Tmp×Value)) (k:Nat) (s:Array Bool) (a:Act) (d:Option Tmp) (v:Value),(∀p∈l,∀t,d=some t→p.1≠some t)→dN l k s (a.put d v)=(dN l k s a).put d v
 | [],_,_,_,_,_,_=>rfl
 |(e,u)::l,k,s,a,d,v,h=>by
  rw[dN,dN];split
  ·rw[Xr9 a v u (h (e,u) (List.mem_cons_self ..)),Xkp l _ _ _ _ _ fun p hp=>h p (List.mem_cons_of_mem _ hp)]
  ·rw[Xkp l _ _ _ _ _ fun p hp=>h p (List.mem_cons_of_mem _ hp)]
theorem Xjs:∀(l:List (Option Tmp×Value)) (k:Nat) (s:Array Bool) (a:Act) (i:Nat),i<k→dN l k (s.setIfInBounds i true) a=dN l k s a
 | [],_,_,_,_,_=>rfl
 |(e,u)::l,k,s,a,i,h=>by
  rw[dN,dN,getD_set_ne false (by omega),Xjs l (k+1) s _ i (by omega)]
theorem Xpg:∀(l:List (Option Tmp×Value)) (k i:Nat) (s:Array Bool) (a:Act) (d:Option Tmp) (v:Value),bC l→l[i]?=some (d,v)→s.getD (k+i) true=false→(dN l k s a).put d v=dN l k (s.setIfInBounds (k+i) true) a
 | [],_,_,_,_,_,_,_,h,_=>absurd h (by simp)
 |(e,u)::l,k,0,s,a,d,v,hp,h,hs=>by
  simp at h;obtain⟨rfl,rfl⟩:=h;have hf:s.getD k false=false:=by
   rw[Nat.add_zero]at hs;rw[Array.getD_eq_getD_getElem?]at hs ⊢;cases hk:s[k]? with
   |none=>rw[hk]at hs;simp at hs
   |some b=>rw[hk]at hs;simpa using hs
  have ht:(s.setIfInBounds k true).getD k false=true:=by
   have hlt:k<s.size:=by
    rw[Nat.add_zero]at hs;have:=Xjq hs;have:=(List.getElem?_eq_some_iff.1 this).1;simpa using this
   simp[Array.getD_eq_getD_getElem?,hlt]
  simp only[Nat.add_zero];rw[dN,dN,ht,hf];simp only[Bool.false_eq_true,if_false,if_true];rw[Xjs l (k+1) s _ k (by omega),Xkp];exact fun p hm t=>(List.pairwise_cons.1 hp).1 p hm t
 |(e,u)::l,k,i+1,s,a,d,v,hp,h,hs=>by
  rw[dN,dN,getD_set_ne false (by omega),show k+(i+1)=k+1+i by omega];exact Xpg l (k+1) i s _ d v (List.pairwise_cons.1 hp).2 (by simpa using h) (by rw[←hs];congr 1;omega)
theorem Xh5(a:Act)(v:Value)(h:d≠some t):(a.put d v).eval (.tmp t)=a.eval (.tmp t):=
 Act.eval_put fun d' hd e=>h (by rw[hd];injection e with e;rw[e])
theorem Xo2(a:Act)(d:Option Tmp)(v:Value):(a.put d v).tmps.size=a.tmps.size:=by cases d<;>simp[Act.put]
theorem YF:∀(l:List (Option Tmp×Value)) (k:Nat) (s:Array Bool) (a:Act) (t:Tmp),(∀p∈l,p.1≠some t)→(dN l k s a).eval (.tmp t)=a.eval (.tmp t)
 | [],_,_,_,_,_=>rfl
 |(e,u)::l,k,s,a,t,h=>by
  rw[dN,YF l _ _ _ _ fun p hp=>h p (List.mem_cons_of_mem _ hp)];split
  ·exact Xh5 a u (h (e,u) (List.mem_cons_self ..))
  ·rfl
theorem Xml:∀(l:List (Option Tmp×Value)) (k i:Nat) (s:Array Bool) (a:Act) (t:Tmp) (v:Value),bC l→l[i]?=some (some t,v)→s.getD (k+i) false=true→t<a.tmps.size→(dN l k s a).eval (.tmp t)=v
 | [],_,_,_,_,_,_,_,h,_,_=>absurd h (by simp)
 |(e,u)::l,k,0,s,a,t,v,hp,h,hs,ht=>by
  simp at h;obtain⟨rfl,rfl⟩:=h;rw[Nat.add_zero]at hs;rw[dN,hs,if_pos rfl,YF l _ _ _ _ fun p hm e=>(List.pairwise_cons.1 hp).1 p hm t rfl e];simp[Act.put,Act.eval,Array.getD_eq_getD_getElem?,ht]
 |(e,u)::l,k,i+1,s,a,t,v,hp,h,hs,ht=>by
  rw[dN];refine Xml l (k+1) i s _ t v (List.pairwise_cons.1 hp).2 (by simpa using h) (by rw[←hs];congr 1;omega) ?_;split
  ·rw[Xo2];exact ht
  ·exact ht
theorem YG:∀(l m:List (Option Tmp×Value)) (k:Nat) (s:Array Bool) (a:Act),l.length=m.length→(∀i,s.getD (k+i) false=true→l[i]?=m[i]?)→dN l k s a=dN m k s a
 | [],[],_,_,_,_,_=>rfl
 | [],_::_,_,_,_,h,_=>absurd h (by simp)
 |_::_,[],_,_,_,h,_=>absurd h (by simp)
 |(e,u)::l,(f,v)::m,k,s,a,hl,h=>by
  rw[dN,dN];have jW:∀a',dN l (k+1) s a'=dN m (k+1) s a':=fun a'=>YG l m (k+1) s a' (by simpa using hl) fun i hi=>by
   have:=h (i+1) (by rw[←hi];congr 1;omega);simpa using this
  cases hk:s.getD k false
  ·simp only[Bool.false_eq_true,if_false];exact jW a
  ·have:=h 0 hk;simp at this;obtain⟨rfl,rfl⟩:=this;simp only[if_true];exact jW _
theorem Xs6(l:List (Option Tmp×Value))(a:Act):∀(k n:Nat),dN l k (Array.replicate n false) a=a:=by
 induction l generalizing a with
 |nil=>intro k n;rfl
 |cons p l ih=>
  intro k n;obtain⟨d,v⟩:=p;have:(Array.replicate n false).getD k false=false:=by
   rw[Array.getD_eq_getD_getElem?];rw[Array.getElem?_replicate];split<;>rfl
  rw[dN,this];simp only[Bool.false_eq_true,if_false];exact ih a _ _
end
section
variable {P:Program} {ops:Array Oper} {Q:Exit→Act→World→Prop}
def aip(ops:Array Oper):Bool:=(List.range ops.size).all fun i=>((ops[i]?).map fun o=>o.after.all fun e=>decide (e.on<i)).getD true
def dE:List (Option Tmp×Value)→Act→Act
 | [],a=>a
 |(d,v)::l,a=>dE l (a.put d v)
theorem qz:∀(l:List (Option Tmp×Value)) (k:Nat) (s:Array Bool) (a:Act),(∀i,i<l.length→s.getD (k+i) false=true)→dN l k s a=dE l a
 | [],_,_,_,_=>rfl
 |(d,v)::l,k,s,a,h=>by
  have h0:=h 0 (by simp);rw[Nat.add_zero]at h0;rw[dN,h0,if_pos rfl,dE];exact qz l (k+1) s _ fun i hi=>by
   have:=h (i+1) (by simp;omega);rw[←this];congr 1;omega
end
section
variable {P:Program} {α:Type} {T:Ty α} {I:IH}
theorem Xec{t:TypeId}{i:TypeInfo}(ht:P.underlying t=some (.slice e))(hi:P.info? e=some i)(w:World)(b ao:Option Addr)(n cap c:Nat)(hn:n≤cap):
 (Builtin.append_ #[t,t] ty #[.slice b n cap,.slice ao 0 c]).run P w= .ok (.slice b n cap) w:=by
 cases b<;>cases ao<;>simp[Builtin.append_,run_underlying ht,sizeOf,typeInfo,hi,Builtin.lenOf,Builtin.firstCells,loadCells,loadCellsFrom,hn,storeCells]
def jY(T:Ty α)(I:IH)(w:World)(v:Value)(l:List α):Prop:=
 ∃ao c cs,v= .slice ao l.length c∧dF T I cs l∧(0<l.length→ ∃ad,ao=some ad∧ ∀j u,cs[j]?=some u→w.cell? (ad.add j)=some u)
theorem jY.vX{l:List α}(h:aZ T I v l)(hw:Ok I w)(hs:0<T.size):jY T I w v l:=by
 obtain⟨ao,cap,xs,hv,_,_,hl,hc⟩:=h.cells hw hs;refine⟨ao,cap,xs,hv,hl,fun h0=> ?_⟩;obtain⟨b,off,arr,rfl,_,_,jf⟩:=hc h0;exact⟨_,rfl,fun j u hu=>by rw[Addr.add_lit];exact jf j u hu⟩
theorem jY.mo{x:α}{cs:List Value}(hx:T.rd I cs x)(hc:∀j u,cs[j]?=some u→w.cell? ⟨g,j,none⟩=some u):jY T I w (.slice (some ⟨g,0,none⟩) 1 1) [x]:=
 ⟨_,_,cs,rfl,dF.one hx,fun _=>⟨_,rfl,fun j u hu=>by rw[Addr.add_lit,Nat.zero_add];exact hc j u hu⟩⟩
theorem Xgv(hE:eZ P ts te T bytes){l:List α}(bU:aQ T te I w B v l){ys:List α}(hy:jY T I w vx ys)
 (iw:(l.length+ys.length)*bytes≤140737488355328) (hl:l.length+ys.length≤9223372036854775807) (hB:B≤w.heap.size):
 ∃v' w',(Builtin.append_ #[ts,ts] ty #[v,vx]).run P w= .ok v' w'∧aQ T te I w' B v' (l++ys)∧w.grownBy w' v.ownBlock:=by
 obtain⟨i,z,h1,h2,h3,h4,h5,h6,h7⟩:=hE;obtain⟨ao,c,cs,rfl,k1,k2⟩:=hy;obtain⟨xs,k3,k4⟩:=bU;rcases Nat.eq_zero_or_pos ys.length with h0|h0
 ·have:ys=[]:=List.eq_nil_of_length_eq_zero h0;subst this;have hv:∃b n cap,v= .slice b n cap∧n≤cap:=by
   rcases k3.2 with⟨h8,_⟩|⟨g,cap,cur,h8,_,_,h9,_⟩
   ·exact⟨_,_,_,h8,Qn _⟩
   ·exact⟨_,_,_,h8,h9⟩
  obtain⟨b,n,cap,rfl,hn⟩:=hv;refine⟨_,w,Xec h1 h2 w b ao n cap c hn,⟨xs,by rw[List.append_nil];exact k3,by rw[List.append_nil];exact k4⟩,⟨rfl,rfl,rfl,Qn _,fun _ _ _=>rfl⟩⟩
 ·obtain⟨ad,rfl,jf⟩:=k2 h0;obtain⟨v',w',hr,r1,r2,_⟩:=run_append_own (P:=P) w B ts ty te i z T.size bytes h1 h2 h3 h4 h5 h6 h7 v l.length xs k3 ad ys.length c cs k1.1 jf k1.oneCell (by unfold maxLen;omega) iw hB;exact⟨v',w',hr,⟨xs++cs,by rw[List.length_append];exact r1,k4.append k1⟩,r2⟩
theorem I6(hE:eZ P ts te T bytes){E:Prop}(Ak:o.guard=none)(s x:Operand)
 (ho:o.op= .call {callee:= .builtin .append,args:=#[s,x],argTypes:=#[ts,ts]})   {l:List α} (hs:a.eval s=v) (bU:aQ T te I w B v l)  {ys:List α} (hx:a.eval x=vx) (hy:jY T I w vx ys)
 (iw:(l.length+ys.length)*bytes≤140737488355328) (hl:l.length+ys.length≤9223372036854775807) (hB:B≤w.heap.size)
 (h:∀v' w',aQ T te I w' B v' (l++ys)→w.grownBy w' v.ownBlock→K (a.put o.dst v') w'):
 if Region.wanted o (yielded ops a.tmps)=true then Oper.wp P o a w K Q else E:=by
 obtain⟨v',w',hr,h1,h2⟩:=Xgv (ty:=o.type) hE bU hy iw hl hB;rw[if_pos (by simp[Region.wanted,Ak])];unfold Oper.wp execOp;simp only[ho,resolve,invoke,builtin,Sem.run_bind,Sem.run_pure,Result.andThen_ok,List.map_toArray,List.map_cons,List.map_nil,hs,hx,hr];exact h v' w' h1 h2
theorem Xhl(hE:eZ P ts te T bytes){rest:List Oper}(Ak:o.guard=none)(s x:Operand)
 (ho:o.op= .call {callee:= .builtin .append,args:=#[s,x],argTypes:=#[ts,ts]})   {l:List α} (hs:a.eval s=v) (bU:aQ T te I w B v l)  {ys:List α} (hx:a.eval x=vx) (hy:jY T I w vx ys)
 (iw:(l.length+ys.length)*bytes≤140737488355328) (hl:l.length+ys.length≤9223372036854775807) (hB:B≤w.heap.size)
 (h:∀v' w',aQ T te I w' B v' (l++ys)→w.grownBy w' v.ownBlock→wpList P ops Q rest (a.put o.dst v') w'):wpList P ops Q (o::rest) a w:=
 wpList_plain Ak fun K hK=>by
  obtain⟨v',w',hr,h1,h2⟩:=Xgv (ty:=o.type) hE bU hy iw hl hB;unfold Oper.wp execOp;simp only[ho,resolve,invoke,builtin,Sem.run_bind,Sem.run_pure,Result.andThen_ok,List.map_toArray,List.map_cons,List.map_nil,hs,hx,hr];exact hK _ _ (h v' w' h1 h2)
end
theorem dS(hp:bC L)(ha:a'=dN L 0 s a)(hi:L[i]?=some (d,v))(aH:s.getD i true=false):a'.put d v=dN L 0 (s.setIfInBounds i true) a:=by
 have h:=Xpg L 0 i s a d v hp hi (by rw[Nat.zero_add];exact aH);rw[ha,h,Nat.zero_add]
theorem gI(hp:bC L)(ha:a'=dN L 0 s a)(hi:L[i]?=some (some t,v))(hs:s.getD i false=true)(ht:t<a.tmps.size):a'.tmps[t]?.getD undef=v:=by
 have h:=Xml L 0 i s a t v hp hi (by rw[Nat.zero_add];exact hs) ht;rw[←ha]at h;simpa[Act.eval]using h
theorem oL(ha:a'=dN L 0 s a)(h:∀p∈L,p.1≠some t):a'.tmps[t]?.getD undef=a.tmps[t]?.getD undef:=by
 have h:=YF L 0 s a t h;rw[←ha]at h;simpa[Act.eval]using h
theorem gG(h:s.getD i true=false):s.getD i false=false:=by
 rw[Array.getD_eq_getD_getElem?]at h ⊢;cases hs:s[i]? with
 |none=>rfl
 |some b=>rw[hs]at h;simpa using h
theorem oO(h:s.getD i true=false):i<s.size:=by
 rcases Nat.lt_or_ge i s.size with h'|h'
 ·exact h'
 ·rw[Array.getD_eq_getD_getElem?,Array.getElem?_eq_none h']at h;simp at h
theorem wJ(n i:Nat):(Array.replicate n false).getD i false=false:=by
 rw[Array.getD_eq_getD_getElem?,Array.getElem?_replicate];split<;>rfl
theorem y9(h:i<s.size):(s.setIfInBounds i true).getD i false=true:=by
 rw[Array.getD_eq_getD_getElem?,Array.getElem?_setIfInBounds_self_of_lt h];rfl
theorem YH{M:List (Option Tmp×Value)}(i:Nat)(hl:L.length=M.length)(h:∀j,j≠i→L[j]?=M[j]?)(aH:s.getD i true=false):dN L 0 s a=dN M 0 s a:=
 YG _ _ _ _ _ hl fun j hj=>by
  rw[Nat.zero_add]at hj;exact h j fun e=>by rw[e,gG aH]at hj;cases hj
def Du(ops:Array Oper):Bool:=(List.range ops.size).all fun i=>((ops[i]?).map fun o=>o.after.all fun e=> !(Region.binds .any e) || decide (e.on<i)).getD true
theorem Xxp(hb:Du ops=true)(hr:Region.ready .any ops s=[])(bS:s.size=ops.size):∀i,i<ops.size→s.getD i false=true:=by
 intro i;induction i using Nat.strongRecOn with
 |_ i ih=>
  intro hi;cases hs:s.getD i false with
  |true=>rfl
  |false=>
   exfalso;have ZB:s.getD i true=false:=by
    rw[Array.getD_eq_getD_getElem?]at hs ⊢;have hlt:i<s.size:=by omega
    rw[Array.getElem?_eq_getElem hlt]at hs ⊢;simpa using hs
   have:i∈Region.ready .any ops s:=mem_ready.2 ⟨ZB,ops[i],Array.getElem?_eq_getElem hi,fun e he qx=> ?_⟩
   ·rw[hr]at this;exact absurd this (by simp)
   ·have h:=List.all_eq_true.1 hb i (List.mem_range.2 hi);rw[Array.getElem?_eq_getElem hi]at h;simp only[Option.map_some,Option.getD_some]at h;obtain⟨j,hj,rfl⟩:=Array.getElem_of_mem he;have h2:=Array.all_eq_true.1 h j hj;rw[qx]at h2;have h3:ops[i].after[j].on<i:=by simpa using h2
    exact ih _ h3 (by omega)
theorem Xhk{X:Type}(L:X→List (Option Tmp×Value))(C:X→Array Bool→World→Prop)(hm:P.follows .mixedOrders=true)(hb:Du ops=true)(h0:∃x,C x (Array.replicate ops.size false) {w with drawn:=w.drawn+1})
 (xZ:∀x s a' w' i,s.size=ops.size→a'=dN (L x) 0 s a→C x s w'→i∈Region.ready .any ops s→wpOp P ops Q i (fun a'' w''=> ∃y,a''=dN (L y) 0 (s.setIfInBounds i true) a∧C y (s.setIfInBounds i true) w'') a' w')
 (vR:∀x s a' w',(∀i,i<ops.size→s.getD i false=true)→a'=dN (L x) 0 s a→C x s w'→Q .normal a' w'):(Code.region id ops true).wp P Q a w:=by
 refine Xj2 (fun s a' w'=>s.size=ops.size∧ ∃x,a'=dN (L x) 0 s a∧C x s w') hm ?_ ?_ ?_
 ·obtain⟨x,hx⟩:=h0;exact⟨by simp,x,(Xs6 _ _ _ _).symm,hx⟩
 ·rintro s a' w' i ⟨bS,x,ha,hx⟩ hi;exact wpOp_mono (fun a'' w'' ⟨y,h1,h2⟩=>⟨by simpa using bS,y,h1,h2⟩) (xZ x s a' w' i bS ha hx hi)
 ·rintro s a' w' ⟨bS,x,ha,hx⟩ hr;exact vR x s a' w' (Xxp hb hr bS) ha hx
theorem Xhv(hE:eZ P ts te T bytes)(bU:aQ T te I w B v l)(hy:jY T I w vx ys)
 (iw:(l.length+ys.length)*bytes≤140737488355328) (hl:l.length+ys.length≤9223372036854775807) (hB:B≤w.heap.size):
 ∃v' w',(Builtin.append_ #[ts,ts] ty #[v,vx]).run P w= .ok v' w'∧aQ T te I w' B v' (l++ys)∧w.grownBy w' v.ownBlock∧ ∀g,v'.ownBlock=some g→v.ownBlock=some g∨w.heap.size≤g:=by
 obtain⟨i,z,h1,h2,h3,h4,h5,h6,h7⟩:=hE;obtain⟨ao,c,cs,rfl,k1,k2⟩:=hy;obtain⟨xs,k3,k4⟩:=bU;rcases Nat.eq_zero_or_pos ys.length with h0|h0
 ·have:ys=[]:=List.eq_nil_of_length_eq_zero h0;subst this;have hv:∃b n cap,v= .slice b n cap∧n≤cap:=by
   rcases k3.2 with⟨h8,_⟩|⟨g,cap,cur,h8,_,_,h9,_⟩
   ·exact⟨_,_,_,h8,Qn _⟩
   ·exact⟨_,_,_,h8,h9⟩
  obtain⟨b,n,cap,rfl,hn⟩:=hv;refine⟨_,w,Xec h1 h2 w b ao n cap c hn,⟨xs,by rw[List.append_nil];exact k3,by rw[List.append_nil];exact k4⟩,⟨rfl,rfl,rfl,Qn _,fun _ _ _=>rfl⟩,fun g hg=> .inl hg⟩
 ·obtain⟨ad,rfl,jf⟩:=k2 h0;obtain⟨v',w',hr,r1,r2,_,r4⟩:=run_append_own_at (P:=P) w B ts ty te i z T.size bytes h1 h2 h3 h4 h5 h6 h7 v l.length xs k3 ad ys.length c cs k1.1 jf k1.oneCell (by unfold maxLen;omega) iw hB;refine⟨v',w',hr,⟨xs++cs,by rw[List.length_append];exact r1,k4.append k1⟩,r2,fun g hg=> ?_⟩;rcases r4 with r4|r4
  ·exact .inl (r4▸hg)
  ·rw[r4]at hg;exact .inr (by cases hg;exact Qn _)
theorem G8(hE:eZ P ts te T bytes)(s x:Operand)
 (ho:o.op= .call {callee:= .builtin .append,args:=#[s,x],argTypes:=#[ts,ts]})    (hs:a.eval s=v) (bU:aQ T te I w B v l)   (hx:a.eval x=vx) (hy:jY T I w vx ys)
 (iw:(l.length+ys.length)*bytes≤140737488355328) (hl:l.length+ys.length≤9223372036854775807) (hB:B≤w.heap.size)
 (h:∀v' w',aQ T te I w' B v' (l++ys)→w.grownBy w' v.ownBlock→(∀g,v'.ownBlock=some g→v.ownBlock=some g∨w.heap.size≤g)→K (a.put o.dst v') w'):Oper.wp P o a w K Q:=by
 obtain⟨v',w',hr,h1,h2,h3⟩:=Xhv (ty:=o.type) hE bU hy iw hl hB;unfold Oper.wp execOp;simp only[ho,resolve,invoke,builtin,Sem.run_bind,Sem.run_pure,Result.andThen_ok,List.map_toArray,List.map_cons,List.map_nil,hs,hx,hr];exact h v' w' h1 h2 h3
structure Ls where
 e:Nat
 b:Nat
 v1:Value
 v2:Value
structure zg {α:Type} (T:Ty α) (E:TypeId) (I:IH) (w3:World) (l:List α) (y:α) (row:Array Value) (i0 i2 i4 i5:Nat) (x:Ls) (s:Array Bool) (w:World):Prop where
 eU:Below w3.heap.size w3 w
 p0:s.getD i0 false=true→s.getD i2 false=false→aQ T E I w w3.heap.size (.slice (some ⟨x.e,0,none⟩) 0 0) []
 p2:s.getD i2 false=true→s.getD i5 false=false→aQ T E I w w3.heap.size x.v1 l
 p4:s.getD i4 false=true→s.getD i5 false=false→w.heap[x.b]?=some (.cells row E (0,0))
 p5:s.getD i5 false=true→aQ T E I w w3.heap.size x.v2 (l++[y])
 n0:s.getD i0 false=true→s.getD i2 false=false→s.getD i4 false=true→x.e≠x.b
 n2:s.getD i2 false=true→s.getD i4 false=true→s.getD i5 false=false→x.v1.ownBlock≠some x.b
 o2:s.getD i2 false=true→s.getD i0 false=true
 o5:s.getD i5 false=true→s.getD i2 false=true∧s.getD i4 false=true
section
variable {α:Type} {T:Ty α} {E:TypeId} {I:IH} {w3 w w':World} {l:List α} {y:α} {row:Array Value} {i0 i2 i4 i5:Nat} {x:Ls} {s:Array Bool}
theorem zg.start(n:Nat)(x:Ls):zg T E I w3 l y row i0 i2 i4 i5 x (Array.replicate n false) {w3 with drawn:=w3.drawn+1}:=by
 refine⟨(Qb _ _).drew,?_,?_,?_,?_,?_,?_,?_,?_⟩<;>(intro h;rw[wJ]at h;cases h)
theorem xk{l:List α}(h:aQ T E I w B v l)(hg:v.ownBlock=some g):B≤g∧g<w.heap.size:=by
 obtain⟨xs,h1,_⟩:=h;exact h1.lt g hg
theorem zg.step(h:zg T E I w3 l y row i0 i2 i4 i5 x s w)(hb:Below w.heap.size w w')(h0:i≠i0)(h2:i≠i2)(h4:i≠i4)(h5:i≠i5):zg T E I w3 l y row i0 i2 i4 i5 x (s.setIfInBounds i true) w':=by
 have e0:(s.setIfInBounds i true).getD i0 false=s.getD i0 false:=getD_set_ne false h0;have e2:(s.setIfInBounds i true).getD i2 false=s.getD i2 false:=getD_set_ne false h2;have e4:(s.setIfInBounds i true).getD i4 false=s.getD i4 false:=getD_set_ne false h4;have e5:(s.setIfInBounds i true).getD i5 false=s.getD i5 false:=getD_set_ne false h5;refine⟨h.eU.trans (hb.mono h.eU.size),?_,?_,?_,?_,?_,?_,?_,?_⟩<;>simp only[e0,e2,e4,e5]
 ·exact fun a b=>(h.p0 a b).below hb
 ·exact fun a b=>(h.p2 a b).below hb
 ·exact fun a b=>(hb.block _ (Qi (h.p4 a b)).1).trans (h.p4 a b)
 ·exact fun a=>(h.p5 a).below hb
 ·exact h.n0
 ·exact h.n2
 ·exact h.o2
 ·exact h.o5
theorem zg.at0(h:zg T E I w3 l y row i0 i2 i4 i5 x s w)(aH:s.getD i0 true=false)(hd:i0<i2∧i2<i4∧i4<i5):zg T E I w3 l y row i0 i2 i4 i5 {x with e:=w.heap.size} (s.setIfInBounds i0 true) (w.alloc (.cells #[] E)):=by
 have u0:=gG aH;have e0:=y9 (oO aH);have e2:(s.setIfInBounds i0 true).getD i2 false=s.getD i2 false:=getD_set_ne false (by omega);have e4:(s.setIfInBounds i0 true).getD i4 false=s.getD i4 false:=getD_set_ne false (by omega);have e5:(s.setIfInBounds i0 true).getD i5 false=s.getD i5 false:=getD_set_ne false (by omega);have f2:s.getD i2 false=false:=by
  cases q:s.getD i2 false with
  |false=>rfl
  |true=>rw[h.o2 q]at u0;cases u0
 have f5:s.getD i5 false=false:=by
  cases q:s.getD i5 false with
  |false=>rfl
  |true=>rw[(h.o5 q).1]at f2;cases f2
 refine⟨h.eU.alloc h.eU.size _,?_,?_,?_,?_,?_,?_,?_,?_⟩<;>simp only[e0,e2,e4,e5,f2,f5,Bool.false_eq_true,false_imp_iff,forall_const]
 ·have h7:=(World.ownsRow_made w #[] 0 (Qn _) (Nat.zero_le _) (e:=E) (size:=T.size) (by simp));exact aQ.lower (show aQ T E I _ w.heap.size _ []from⟨[],h7,dF.nil _ _⟩) h.eU.size
 ·exact fun a=>(Below.heap_alloc _ _ _ (Qi (h.p4 a f5)).1).trans (h.p4 a f5)
 ·intro a;have:=(Qi (h.p4 a f5)).1;show w.heap.size≠x.b;omega
theorem zg.at4(h:zg T E I w3 l y row i0 i2 i4 i5 x s w)(aH:s.getD i4 true=false)(hd:i0<i2∧i2<i4∧i4<i5):zg T E I w3 l y row i0 i2 i4 i5 {x with b:=w.heap.size} (s.setIfInBounds i4 true) (w.alloc (.cells row E)):=by
 have u4:=gG aH;have e4:=y9 (oO aH);have e0:(s.setIfInBounds i4 true).getD i0 false=s.getD i0 false:=getD_set_ne false (by omega);have e2:(s.setIfInBounds i4 true).getD i2 false=s.getD i2 false:=getD_set_ne false (by omega);have e5:(s.setIfInBounds i4 true).getD i5 false=s.getD i5 false:=getD_set_ne false (by omega);have f5:s.getD i5 false=false:=by
  cases q:s.getD i5 false with
  |false=>rfl
  |true=>rw[(h.o5 q).2]at u4;cases u4
 refine⟨h.eU.alloc h.eU.size _,?_,?_,?_,?_,?_,?_,?_,?_⟩<;>simp only[e0,e2,e4,e5,f5,Bool.false_eq_true,false_imp_iff,forall_const]
 ·exact fun a b=>(h.p0 a b).alloc _
 ·exact fun a=>(h.p2 a f5).alloc _
 ·exact heap_alloc_new w _
 ·intro a b;have:=(xk (g:=x.e) (h.p0 a b) (by simp[Value.ownBlock])).2;show x.e≠w.heap.size;omega
 ·intro a q;have:=(xk (h.p2 a f5) q).2;have:w.heap.size<w.heap.size:=this;omega
 ·exact h.o2
theorem zg.at2(h:zg T E I w3 l y row i0 i2 i4 i5 x s w)(aH:s.getD i2 true=false)(h0:s.getD i0 false=true)(hd:i0<i2∧i2<i4∧i4<i5)(ho:aQ T E I w' w3.heap.size v ([]++l))(hg:w.grownBy w' (some x.e))
 (hl:∀g,v.ownBlock=some g→some x.e=some g∨w.heap.size≤g):zg T E I w3 l y row i0 i2 i4 i5 {x with v1:=v} (s.setIfInBounds i2 true) w':=by
 have u2:=gG aH;have e2:=y9 (oO aH);have e0:(s.setIfInBounds i2 true).getD i0 false=s.getD i0 false:=getD_set_ne false (by omega);have e4:(s.setIfInBounds i2 true).getD i4 false=s.getD i4 false:=getD_set_ne false (by omega);have e5:(s.setIfInBounds i2 true).getD i5 false=s.getD i5 false:=getD_set_ne false (by omega);have f5:s.getD i5 false=false:=by
  cases q:s.getD i5 false with
  |false=>rfl
  |true=>rw[(h.o5 q).1]at u2;cases u2
 have he:=xk (g:=x.e) (h.p0 h0 u2) (by simp[Value.ownBlock]);refine⟨h.eU.grown hg h.eU.size (fun k e=>by cases e;exact he.1),?_,?_,?_,?_,?_,?_,?_,?_⟩<;>simp only[e0,e2,e4,e5,f5,h0,Bool.false_eq_true,Bool.true_eq_false,false_imp_iff,forall_const]
 ·simpa using ho
 ·intro a;have hb:=h.p4 a f5;exact(hg.block _ (Qg hb) (fun q=>h.n0 h0 u2 a (Option.some.inj q).symm)).trans hb
 ·intro a q;have hb:=(Qi (h.p4 a f5)).1;rcases hl _ q with q|q
  ·exact h.n0 h0 u2 a (Option.some.inj q)
  ·have:w.heap.size≤x.b:=q;omega
theorem zg.at5(h:zg T E I w3 l y row i0 i2 i4 i5 x s w)(aH:s.getD i5 true=false)(h2:s.getD i2 false=true)(h4:s.getD i4 false=true)(hd:i0<i2∧i2<i4∧i4<i5)(ho:aQ T E I w' w3.heap.size v (l++[y]))(hg:w.grownBy w' x.v1.ownBlock):
 zg T E I w3 l y row i0 i2 i4 i5 {x with v2:=v} (s.setIfInBounds i5 true) w':=by
 have u5:=gG aH;have e5:=y9 (oO aH);have e0:(s.setIfInBounds i5 true).getD i0 false=s.getD i0 false:=getD_set_ne false (by omega);have e2:(s.setIfInBounds i5 true).getD i2 false=s.getD i2 false:=getD_set_ne false (by omega);have e4:(s.setIfInBounds i5 true).getD i4 false=s.getD i4 false:=getD_set_ne false (by omega);refine⟨h.eU.grown hg h.eU.size (fun k e=>(xk (h.p2 h2 u5) e).1),?_,?_,?_,?_,?_,?_,?_,?_⟩<;>simp only[e0,e2,e4,e5,h2,h4,Bool.true_eq_false,false_imp_iff,forall_const,implies_true,and_self]
 ·exact ho
 ·exact h.o2 h2
end
