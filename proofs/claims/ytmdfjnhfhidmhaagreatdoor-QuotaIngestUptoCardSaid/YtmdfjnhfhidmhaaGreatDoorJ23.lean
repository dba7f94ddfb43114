/- Lemmas for the claim's theorem;conditions: as each says. -/
import Derived.Test.YtmdfjnhfhidmhaaGreatDoorJ22
import Derived.Test.YtmdfjnhfhidmhaaGreatDoorJ18
set_option maxHeartbeats 0
set_option maxRecDepth 100000
set_option linter.all false
namespace Go.Proofs.YtmdfjnhfhidmhaaGreatDoor
open Go.RowKit
variable{w X:World}{B:Nat}{l:List Int}
structure DM (w:World) (B:Nat) (l:List Int) (X:World):Prop where
 below:Below w.heap.size w X
 le:w.heap.size≤B
 lt:B<X.heap.size
 nG:X.heap[B]?=some (.cells (row l) 206 (0,0))
theorem DM.pass{X':World}(h:DM w B l X)(hb:Below X.heap.size X X'):DM w B l X':=
 ⟨h.below.trans (hb.mono h.below.size),h.le,Nat.lt_of_lt_of_le h.lt hb.size,(hb.block _ h.lt).trans h.nG⟩
theorem DM.set{l':List Int}(h:DM w B l X):DM w B l' (X.setRow B (row l')):=
 ⟨below_setRow h.below h.le _,h.le,by simpa using h.lt,setRow_heap _ _ _ _ _ _ h.nG⟩
def DgR(w:World)(B:Nat)(s:af)(v4 v5:Value)(X:World):Prop:=
 (∃i:Nat,i≤lK s∧64*i≤s.length∧v4= .int .i64 (64*(i:Int))∧v5= .bool false∧DM w B (hAt s i) X)∨(v4= .int .i64 (s.length:Int)∧v5= .bool true∧DM w B (iM s) X)
def Zr:Value→Nat
 | .bool true=>0
 |_=>1
theorem Xt7(G:List Int)(hG:G.length=8)(q r:Nat)(hq:q<8)(hr:r<4):(iN G 8).take (4*q+r+1)=(iN G 8).take (4*q+r)++[(iq (G.getD q 0)).getD r 0]:=by
 obtain⟨a,b,c,d,e,f,g,h,rfl⟩:=LF hG
 rcases(show q=0∨q=1∨q=2∨q=3∨q=4∨q=5∨q=6∨q=7 by omega)with rfl|rfl|rfl|rfl|rfl|rfl|rfl|rfl<;>
  rcases(show r=0∨r=1∨r=2∨r=3 by omega)with rfl|rfl|rfl|rfl<;>rfl
theorem Xwc(G:List Int)(hG:G.length=8):(iN G 8).length=32:=by
 obtain⟨a,b,c,d,e,f,g,h,rfl⟩:=LF hG;rfl
theorem Xk2(s:af)(hs:s.length≤140737488355328)(w:World):
 Calls Tryz.prog 113 #[S s] w fun e w'=>e= .returned (S (fA s))∧Below w.heap.size w w':=by
 go_enter Tryz.func113,Tryz.ntmps113
 go_wp2_with fail
 refine(Xe7 _).mono ?_;rintro e w1 ⟨rfl,aD⟩;rw[show row eX=#[.int .u32 1779033703,.int .u32 3144134277,.int .u32 1013904242,.int .u32 2773480762,.int .u32 1359893119,.int .u32 2600822924,.int .u32 528734635,.int .u32 1541459225]from rfl];go_wp2_with fail
 go_loopw [4,5] (fun s4 s5 wr=>DgR w w1.heap.size s s4 s5 wr) (fun c d _=>(s.length-(intOf c).toNat)+Zr d)
 case atStart=>exact .inl ⟨0,Nat.zero_le _,Nat.zero_le _,rfl,rfl,aD.alloc aD.size _,aD.size,by simp,heap_alloc_new w1 (.cells (row rz) 206)⟩
 case round=>
  have MK:=aD.size;clear aD;rcases hrel with⟨i,hi,TL,rfl,rfl,hm⟩|⟨rfl,rfl,hm⟩
  ·have Hm:=Qh hm;clear hm;by_cases hlt:i<lK s
   ·have Et:64*i+64<s.length:=by unfold lK at hlt;omega
    have En:i+1≤lK s:=hlt;clear hlt hi;have wL:IntKind.i64.wrap ((s.length:Int)-64*(i:Int))=(s.length:Int)-64*(i:Int):=IntWalk.i64_in _ (by omega);have Es:IntKind.i64.wrap (64*(i:Int)+64)=64*(i:Int)+64:=IntWalk.i64_in _ (by omega);have qP:(0:Int)≤64*(i:Int):=by omega
    have GX:(64*(i:Int)+64).toNat=64*i+64:=by omega
    have Ki:(64*(i:Int)).toNat=64*i:=by omega
    have hw6:64*i+64-64*i=64:=by omega
    have ng:decide (64<(s.length:Int)-64*(i:Int))=true:=by simp;omega
    have D8:=Qh (show dQ (hAt s i) ((s.drop (64*i)).take 64) (64*(i:Int)+64) false=hAt s (i+1) by rw[hAt,show((64*i+64:Nat):Int)=64*(i:Int)+64 by omega]);have rW:((s.drop (64*i)).take 64).length=64:=by simp;omega
    have hc:((64*(i:Int)+64)==(s.length:Int))=false:=by rw[beq_eq_false_iff_ne];omega
    have hwu:IntKind.u64.wrap (64*(i:Int)+64)=64*(i:Int)+64:=IntWalk.u64_in _ (by omega);go_wp2_with fail
    generalize(s.drop (64*i)).take 64=blk at D8 rW ⊢;have Iy:=Qh rW;have Zt:64≤blk.length:=by omega
    clear rW;go_loop [7] (fun s7=>s7=S blk) (fun _=>0)
    case atStart=>rfl
    case round=>
     obtain rfl:=hrel;have aS:=Hm.O.nG;have Av:=QC s i;generalize hAt s i=F at aS Av D8;have wm:(Tryz.prog.info? 206).map (·.size)=some (row F).size:=by rw[bG,Av];kernel_rfl
     have RH:=Qh Av;clear Av;go_wp2_with (refine wpList_load_row rfl 206 _ rfl w1.heap.size rfl 206 (row F) (0,0) _ aS Tryz.underlying206 rfl wm ?_)
     refine(Xeg F RH.O blk Iy.O (64*(i:Int)+64) false _).mono ?_;rintro e w3 ⟨rfl,dX⟩;have LG:=Qh (Hm.O.pass dX);have tV:w3.heap[w1.heap.size]?=some (.cells (row F) 206 (0,0)):=(dX.block _ Hm.O.lt).trans aS;rw[D8.O];have jf:=QC s (i+1);generalize hG:hAt s (i+1)=G at jf ⊢;have HG:=Qh hG;have hi9:(Tryz.prog.info? 206).map (·.size)=some (row G).size:=by rw[bG,jf];kernel_rfl
     have Zu:(row F).size=(row G).size:=by rw[bG,bG,RH.O,jf]
     have j5:(row G).all (·.oneCell')=true:=by simp[row,Value.oneCell']
     clear dX aS hG jf;go_wp2_with (refine wpList_store_row rfl 206 _ _ rfl w1.heap.size (row G) rfl rfl 206 (row F) tV hi9 Zu j5 ?_)
     simp only[Act.put];go_roundw;case rel=>exact .inl ⟨i+1,by omega,by omega,by go_num,rfl,by rw[HG.O];exact LG.O.set⟩
     case measure=>simp[intOf,Zr];omega
   ·have Lb:i=lK s:=by omega
    have CL:s.length≤64*i+64:=by unfold lK at Lb;omega
    obtain⟨m,hm⟩:∃m,s.length-64*i=m:=⟨_,rfl⟩;have hmi:(s.length:Int)-64*(i:Int)=(m:Int):=by omega
    have aol:m≤64:=by omega
    have qx:=Qh (show dQ (hAt s i) (s.drop (64*i)++List.replicate (64-m) 0) (s.length:Int) true=iM s by rw[iM,←Lb,hm]);have OE:(s.drop (64*i)).length=m:=by simp;omega
    have rQ:(s.drop (64*i)).take m=s.drop (64*i):=List.take_of_length_le (by omega);have wL:IntKind.i64.wrap ((s.length:Int)-64*(i:Int))=(m:Int):=by rw[hmi];exact IntWalk.i64_in _ (by omega)
    have Es:IntKind.i64.wrap (64*(i:Int)+(m:Int))=(s.length:Int):=by rw[IntWalk.i64_in _ (by omega)];omega
    have qP:(0:Int)≤64*(i:Int):=by omega
    have Ki:(64*(i:Int)).toNat=64*i:=by omega
    have hw7:s.length-64*i=m:=hm;have hw8:64*(i:Int)≤(s.length:Int):=by omega
    have hwu:IntKind.u64.wrap (s.length:Int)=(s.length:Int):=IntWalk.u64_in _ (by omega);clear hm Lb hlt hmi OE;go_wp2_with fail
    generalize TW:s.drop (64*i)=blk at qx ⊢;have rW:blk.length=m:=by rw[←TW];simp;omega
    clear TW wL Es qP Ki hw7 hw8;have Iy:=Qh rW;have Zt:blk.length≤64:=by omega
    have hwc:((s.length:Int)==(s.length:Int))=true:=beq_self_eq_true _;clear rW;go_loop [7] (fun s7=> ∃j:Nat,j+m≤64∧s7=S (blk++List.replicate j 0)) (fun v=>match v with| .string b=>64-b.size|_=>0)
    case atStart=>exact⟨0,by omega,by simp⟩
    case round=>
     obtain⟨j,hj,rfl⟩:=hrel;have xk:(blk++List.replicate j (0:UInt8)).length=m+j:=by rw[List.length_append,List.length_replicate,Iy.O]
     have Hjs:=Qh (show blk++List.replicate j (0:UInt8)++[0]=blk++List.replicate (j+1) 0 by rw[List.replicate_succ',List.append_assoc]);have Hjl:=Qh xk;generalize hx:blk++List.replicate j (0:UInt8)=x at xk Hjs Hjl ⊢;have Hx:=Qh hx;clear hx;by_cases afT:j+m<64
     ·have Zv:x.length<64:=by omega
      clear xk;go_wp2;go_round;case rel=>exact⟨j+1,by omega,by rw[Hjs.O]⟩
      case measure=>simp[ByteArray.size];omega
     ·have Zv:64≤x.length:=by omega
      have Zw:=Qh (show x.length=64 by omega);have Hxe:=Qh (show x=blk++List.replicate (64-m) 0 by rw[←Hx.O,show 64-m=j by omega]);clear xk;have aS:=Hm.O.nG;have Av:=QC s i;generalize hAt s i=F at aS Av qx;have wm:(Tryz.prog.info? 206).map (·.size)=some (row F).size:=by rw[bG,Av];kernel_rfl
      have RH:=Qh Av;clear Av;go_wp2_with (refine wpList_load_row rfl 206 _ rfl w1.heap.size rfl 206 (row F) (0,0) _ aS Tryz.underlying206 rfl wm ?_)
      refine(Xeg F RH.O x Zw.O (s.length:Int) true _).mono ?_;rintro e w3 ⟨rfl,dX⟩;have LG:=Qh (Hm.O.pass dX);have tV:w3.heap[w1.heap.size]?=some (.cells (row F) 206 (0,0)):=(dX.block _ Hm.O.lt).trans aS;have jf:(dQ F x (s.length:Int) true).length=8:=Qv ..;generalize hG:dQ F x (s.length:Int) true=G at jf ⊢;have HG:=Qh (show iM s=G by rw[←qx.O,←Hxe.O,hG]);have hi9:(Tryz.prog.info? 206).map (·.size)=some (row G).size:=by rw[bG,jf];kernel_rfl
      have Zu:(row F).size=(row G).size:=by rw[bG,bG,RH.O,jf]
      have j5:(row G).all (·.oneCell')=true:=by simp[row,Value.oneCell']
      clear dX aS hG jf;go_wp2_with (refine wpList_store_row rfl 206 _ _ rfl w1.heap.size (row G) rfl rfl 206 (row F) tV hi9 Zu j5 ?_)
      simp only[Act.put];go_roundw;case rel=>exact .inr ⟨rfl,rfl,by rw[HG.O];exact LG.O.set⟩
      case measure=>simp[intOf,Zr]
  ·have Hm:=Qh hm;clear hm;have Vw:(iM s).length=8:=Qv ..;obtain⟨G,hG⟩:∃G,iM s=G:=⟨_,rfl⟩;have HG:=Qh hG;rw[hG]at Vw Hm;clear hG;go_wp2_with fail
   have ui:=Hm.O.lt;have Lg:aK tB 5 (fun _=>none) wr wr.heap.size (.slice none 0 0) ((iN G 8).take 0):=aK.nil _ _ _ _ _;have Fx:=Qh Lg;have Bw:w.heap.size≤wr.heap.size:=Hm.O.below.size;clear Lg MK;generalize IA:wr.heap.size=B0 at ui Fx Bw;have RI:=Qh (Nat.le_of_eq IA.symm);clear IA;have F3:=Xwc G Vw;generalize w1.heap.size=B at ui Hm ⊢;go_loopw [8,9] (fun s8 s9 X=> ∃k:Nat,k≤32∧s9= .int .i64 k∧aK tB 5 (fun _=>none) X B0 s8 ((iN G 8).take k)∧X.heap[B]?=some (.cells (row G) 206 (0,0))∧Below w.heap.size w X∧B0≤X.heap.size) (fun _ k _=>32-(intOf k).toNat)
   case atStart=>exact⟨0,Nat.zero_le _,rfl,Fx.O,Hm.O.nG,Hm.O.below,RI.O⟩
   case round=>
    clear Fx Hm RI;obtain⟨k,hk,rfl,bg,aS,hb,dM⟩:=hrel;have bL:=Qh bg;by_cases hlt:k<32
    ·obtain⟨q,r,hq,hr,Lf⟩:∃q r,q<8∧r<4∧k=4*q+r:=⟨k / 4,k%4,by omega,by omega,by omega⟩;have abR:(k:Int) / 4=(q:Int):=by omega
     have hqi:(q:Int)<8:=by omega
     have bu:=Qh (show(iN G 8).take (k+1)=(iN G 8).take k++[(iq (G.getD q 0)).getD r 0] by rw[Lf];exact Xt7 G Vw q r hq hr);have c0:=(cell_of_row wr _ q _ _ _ aS).trans (pG (l:=G) (by omega));have yG:((iN G 8).take k).length≤32:=by rw[List.length_take];omega
     have Dp:=Qh Lf;have kg:=Qh aS;clear Lf bg aS F3;generalize G.getD q 0=x0 at c0 bu;rcases(show r=0∨r=1∨r=2∨r=3 by omega)with rfl|rfl|rfl|rfl
     ·have BH:(k:Int)%4=0:=by have:=Dp.O;omega
      go_wp2_with (at_builtin;refine pE (w0:=wr) QD rfl _ _ rfl _ _ _ rfl bL.O (x0%256) [.int .u8 (x0%256)] _ rfl rfl (by omega) (by omega) dM ?_)
      intro v5 w5 gM hg5;have bM:=Below.own hb hg5 bL.O Bw dM;have wY:=(hg5.block B (by omega) (fun e=>bL.O.cK ui e.symm)).trans kg.O;have Lh:=hg5.size;have fw:=Qh gM;have ML:=Qh wY;clear gM wY hg5 bL kg;go_wp2;go_roundw;case rel=>exact⟨k+1,by omega,by go_num,by rw[bu.O];exact fw.O,ML.O,bM,by omega⟩
      case measure=>simp[intOf];omega
     ·have BH:(k:Int)%4=1:=by have:=Dp.O;omega
      go_wp2_with (at_builtin;refine pE (w0:=wr) QD rfl _ _ rfl _ _ _ rfl bL.O (x0 / 256%256) [.int .u8 (x0 / 256%256)] _ rfl rfl (by omega) (by omega) dM ?_)
      intro v5 w5 gM hg5;have bM:=Below.own hb hg5 bL.O Bw dM;have wY:=(hg5.block B (by omega) (fun e=>bL.O.cK ui e.symm)).trans kg.O;have Lh:=hg5.size;have fw:=Qh gM;have ML:=Qh wY;clear gM wY hg5 bL kg;go_wp2;go_roundw;case rel=>exact⟨k+1,by omega,by go_num,by rw[bu.O];exact fw.O,ML.O,bM,by omega⟩
      case measure=>simp[intOf];omega
     ·have BH:(k:Int)%4=2:=by have:=Dp.O;omega
      go_wp2_with (at_builtin;refine pE (w0:=wr) QD rfl _ _ rfl _ _ _ rfl bL.O (x0 / 65536%256) [.int .u8 (x0 / 65536%256)] _ rfl rfl (by omega) (by omega) dM ?_)
      intro v5 w5 gM hg5;have bM:=Below.own hb hg5 bL.O Bw dM;have wY:=(hg5.block B (by omega) (fun e=>bL.O.cK ui e.symm)).trans kg.O;have Lh:=hg5.size;have fw:=Qh gM;have ML:=Qh wY;clear gM wY hg5 bL kg;go_wp2;go_roundw;case rel=>exact⟨k+1,by omega,by go_num,by rw[bu.O];exact fw.O,ML.O,bM,by omega⟩
      case measure=>simp[intOf];omega
     ·have BH:(k:Int)%4=3:=by have:=Dp.O;omega
      go_wp2_with (at_builtin;refine pE (w0:=wr) QD rfl _ _ rfl _ _ _ rfl bL.O (x0 / 16777216%256) [.int .u8 (x0 / 16777216%256)] _ rfl rfl (by omega) (by omega) dM ?_)
      intro v5 w5 gM hg5;have bM:=Below.own hb hg5 bL.O Bw dM;have wY:=(hg5.block B (by omega) (fun e=>bL.O.cK ui e.symm)).trans kg.O;have Lh:=hg5.size;have fw:=Qh gM;have ML:=Qh wY;clear gM wY hg5 bL kg;go_wp2;go_roundw;case rel=>exact⟨k+1,by omega,by go_num,by rw[bu.O];exact fw.O,ML.O,bM,by omega⟩
      case measure=>simp[intOf];omega
    ·have nY:k=32:=by omega
     have Li:(iN G 8).take k=iN G 8:=List.take_of_length_le (by omega);have TY:(iN G 8).map (fun x=>UInt8.ofNat x.toNat)=fA s:=by rw[fA,HG.O]
     rw[Li]at bg;have vI:0<(iN G 8).length:=by omega
     have Wm:=XV (P:=Tryz.prog) Tryz.underlying93 Tryz.underlying5 Tryz.underlying9 wr bg vI;rw[TY]at Wm;clear bg vI nY Li TY aS bL F3 Vw;go_wp2;go_ret;exact⟨rfl,hb⟩
def xS(s:af)(k:Nat):af:=if k=0 then []else s
theorem Xir(b off cap:Nat)(s:af)(hs:s.length≤140737488355328)(w:World)(hc:w.cell? ⟨b,off,none⟩=some (S s)):
 Calls Tryz.prog 70 #[.slice (some ⟨b,off,none⟩) 1 cap] w fun e w'=>e= .returned (S (fA s))∧Below w.heap.size w w':=by
 go_enter Tryz.func70,Tryz.ntmps70
 go_wp2_with fail
 go_loop [3,4] (fun s3 s4=> ∃k:Nat,k≤1∧s4= .int .i64 k∧s3=S (xS s k)) (fun _ k=>1-(intOf k).toNat)
 case atStart=>exact⟨0,by omega,rfl,rfl⟩
 case round=>
  obtain⟨k,hk,rfl,rfl⟩:=hrel;by_cases hlt:k<1
  ·have vG:k=0:=by omega
   subst vG;rw[show xS s 0=[]from rfl];go_wp2;go_round;case rel=>exact⟨1,by omega,by go_num,rfl⟩
   case measure=>simp[intOf]
  ·have vZ:k=1:=by omega
   subst vZ;rw[show xS s 1=s from rfl];go_wp2_with fail
   refine(Xk2 s hs _).mono ?_;rintro e w1 ⟨rfl,aD⟩;go_wp2;go_ret;exact⟨rfl,aD⟩
