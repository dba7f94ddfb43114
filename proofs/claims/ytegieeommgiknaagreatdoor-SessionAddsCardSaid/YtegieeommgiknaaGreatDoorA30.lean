/- Lemmas for the claim's theorem;conditions: as each says. -/
import Derived.Test.YtegieeommgiknaaGreatDoorU29
set_option maxHeartbeats 0
set_option maxRecDepth 100000
set_option linter.all false
namespace Go.Proofs.YtegieeommgiknaaGreatDoor
open Go.RowKit
variable{n m:Nat}{I:IH}
theorem ZM(I:IH)(ai dt sp:Int)(L:List bV)(hn:L.length≤1000)(vs:Value)(fV:aZ fw I vs L)(w:World)(hw:Ok I w):
 Calls Tryz.prog 55 #[bW ai dt sp vs] w fun e w'=> ∃v',e= .returned v'∧aQ iE 9 I w' w.heap.size v' (bT L)∧Below w.heap.size w w':=by
 have ma:=Qh fV;obtain⟨so,sc,rfl,_,_,_⟩:=id fV;clear fV;have Oo:=Qh (fun b (h:w.heap.size+1≤b)=>hw.fresh (b:=b) (by omega));have H0:=Qh (heap_alloc_new w (.cells #[.int .u32 ai,.int .i64 dt,.int .i64 sp,.slice so L.length sc] 30));have MB:=Qh (Rk (T:=iE) (E:=9) (I:=I) (w.alloc (.cells #[.int .u32 ai,.int .i64 dt,.int .i64 sp,.slice so L.length sc] 30)));have iq:Ok I ((w.alloc (.cells #[.int .u32 ai,.int .i64 dt,.int .i64 sp,.slice so L.length sc] 30)).alloc (.cells #[] 9)):=(hw.alloc _).alloc _;have tX:Below w.heap.size w ((w.alloc (.cells #[.int .u32 ai,.int .i64 dt,.int .i64 sp,.slice so L.length sc] 30)).alloc (.cells #[] 9)):=((Qb _ _).alloc (Qn _) _).alloc (by simp) _;have pg:((w.alloc (.cells #[.int .u32 ai,.int .i64 dt,.int .i64 sp,.slice so L.length sc] 30)).alloc (.cells #[] 9)).cell? ⟨w.heap.size,3,none⟩=some (.slice so L.length sc):=kM _ ((cell_of_row _ _ 3 _ _ _ H0.O).trans rfl);have Rl:=Qh pg;clear pg;go_enter Tryz.func55,Tryz.ntmps55
 go_wp2_with fail
 go_loopw [3,4] (fun s3 s4 wr=> ∃k:Nat,k≤L.length∧s4= .int .i64 k∧aQ iE 9 I wr (w.heap.size+1) s3 (bT (L.take k))∧Ok I wr∧Below w.heap.size w wr∧wr.cell? ⟨w.heap.size,3,none⟩=some (.slice so L.length sc)) (fun _ i _=>L.length-(intOf i).toNat)
 case atStart=>exact⟨0,Nat.zero_le _,rfl,by have:=MB.O;rw[World.size_alloc]at this;exact this,iq,tX,Rl.O⟩
 case round=>
  clear iq tX;obtain⟨k,hk,rfl,hO,iZ,hb,hz⟩:=hrel;have HO:=Qh hO;have qM:=Qh iZ;clear hO iZ;by_cases hlt:k<L.length
  ·obtain⟨x,ve,b,off,cap',cB,dC,⟨c0,c1,c2,c3,c4,c5⟩,h1⟩:=Cx ma.O qM.O k hlt;cases dC;have F6:=Qh (show(bT (L.take k)).length=k by simp[bT];omega);have bI:=Qh (ZN hlt cB);have ZO:w.heap.size<wr.heap.size:=block_lt_of_cell hz;have Hz:=Qh hz;clear cB h1
   go_wp2_with (at_builtin
                refine qX (w0:=wr) Oq rfl _ _ rfl (w.heap.size+1) _ _ rfl HO.O x.aU [S x.aU] _ (by first|rfl|simp[Act.eval]) rfl (by rw[F6.O];omega) (by rw[F6.O];omega) (by omega) ?_;intro v5 w5 KA hg5)
   go_roundw;case rel=>exact⟨k+1,by omega,by go_num,by rw[bI.O];exact KA,qM.O.own hg5 HO.O (fun b hb=>Oo.O b hb),Below.own hb hg5 HO.O (by omega) (by omega),fC hg5 (HO.O.dm (by simp)) Hz.O⟩
   case measure=>simp[intOf];omega
  ·have mJ:k=L.length:=by omega
   subst mJ;rw[List.take_length]at HO;go_wp2;go_ret;exact⟨_,rfl,HO.O.lower (by omega),hb⟩
theorem ZP(I:IH)(ai dt sp:Int)(L:List bV)(h:eT n m L)(hn:n≤150)(hm:m≤254)(vs:Value)(fV:aZ fw I vs L)(w:World)(hw:Ok I w):
 Calls Tryz.prog 27 #[bW ai dt sp vs] w (Gz I w L):=by
 have hlen:=h.len;have HA:=Qh h;have ma:=Qh fV;have GA:=Qh (fun w hw=>ZM I ai dt sp L (by omega) vs fV w hw);have oM:=Qh (show(Tryz.prog.info? 46).map (·.size)=some 9 by kernel_rfl);obtain⟨so,sc,rfl,_,_,_⟩:=id fV;obtain⟨W3,tY⟩:∃W3,(((w.alloc (.cells #[.int .u32 ai,.int .i64 dt,.int .i64 sp,.slice so L.length sc] 30)).alloc (.cells aY 46)).alloc (.cells aY 46))=W3:=⟨_,rfl⟩;obtain⟨oD,rX,pK,mF⟩:=MC w _ _ _ _ _ _ W3 tY;have A3:=Qh (show lJ I w I W3 by rw[←tY];exact(((lJ.start hw).past _).past _).past _);have z0:W3.cell? ⟨w.heap.size,0,none⟩=some (.int .u32 ai):=(cell_of_row _ _ 0 _ _ _ rX).trans rfl;have z1:W3.cell? ⟨w.heap.size,1,none⟩=some (.int .i64 dt):=(cell_of_row _ _ 1 _ _ _ rX).trans rfl;have z2:W3.cell? ⟨w.heap.size,2,none⟩=some (.int .i64 sp):=(cell_of_row _ _ 2 _ _ _ rX).trans rfl;have z3:W3.cell? ⟨w.heap.size,3,none⟩=some (.slice so L.length sc):=(cell_of_row _ _ 3 _ _ _ rX).trans rfl
 have Fe:=Qh (show um I w (.slice so L.length sc) I W3 aN AP (.slice none 0 0) (.slice none 0 0) (.slice none 0 0)from
  ⟨A3.O,Ext.refl _ _,hw.fresh (by omega),hw.fresh (by omega),z3,pK,mF,aZ.nil _ _,aZ.nil _ _,aZ.nil _ _⟩)
 have GC:=Qh mF;clear h fV rX pK mF;go_enter Tryz.func27,Tryz.ntmps27
 go_wp2_with (refine fO rfl rfl 46 _ _ rfl (w.heap.size+2) 0 aY.toList (.agg aY) (by simp[Act.eval]) (by simp[Act.eval]) (by rfl) aY 46 GC.O (by simp) (by kernel_rfl) (by simp[Value.oneCell']) aY (by rfl) ?_
              intro wz DW Ju;have z0:=fC DW (by simp) z0;have z1:=fC DW (by simp) z1;have z2:=fC DW (by simp) z2;have z3:=fC DW (by simp) z3)
 replace Fe:=Qh (Fe.O.put (S1:=aN) (q1:=AP) DW Ju (aZ.nil _ _) (aZ.nil _ _) (aZ.nil _ _));have aeO:=DW.size;refine(GA.O wz Fe.O.at_.ok).mono ?_;rintro e0 w4 ⟨v4,rfl,F7,aS⟩;obtain⟨J0,ni,iq,Ay,_⟩:=F7.freeze (Fe.O.at_.ok.below (Qn _) aS) (fun b hb=>hw.fresh (by omega));obtain⟨lo,lc,rfl,_,_,_⟩:=id Ay;have bI:=Qh Ay;have M0:=Qh (Fe.O.aR aS ni iq);clear tY z0 z1 z2 z3 Fe A3 GC DW Ju F7 aS ni iq Ay GA;go_wp2_with fail
 go_loopw [5] (fun s5 wr=> ∃(k:Nat) (J:IH) (vk vt vh:Value),k≤L.length∧s5= .int .i64 k∧(∀b c,J0 b=some c→J b=some c)∧um I w (.slice so L.length sc) J wr (aP aN (L.take k)) (nA (bT L) L k) vk vt vh) (fun i _=>L.length-(intOf i).toNat)
 case atStart=>exact⟨0,J0,_,_,_,Nat.zero_le _,rfl,fun _ _ h=>h,M0.O⟩
 case round=>
  clear M0;obtain⟨k,J,vk,vt,vh,hk,rfl,hJ,hM⟩:=hrel;have M:=Qh hM;have HJ:=Qh hJ;have zb:=hM.box;clear hM hJ;by_cases hlt:k<L.length
  ·obtain⟨x,ve,b,off,cap',cB,dC,⟨c0,c1,c2,c3,c4,c5⟩,h1⟩:=Cx (ma.O.mono M.O.at_.keep) M.O.at_.ok k hlt;cases dC;have pM:=Qh cB;have uU:x.aB.length≤150:=Nat.le_trans (HA.O.aB (by rw[←cB];exact List.getElem_mem hlt)) hn;have Hb:=Qh (ZQ HA.O hn hm hlt cB);have Aq:=Qh h1;obtain⟨eo,ec,rfl,_,_,_⟩:=id h1;have m1:IntKind.i64.wrap ((k:Int)+1)=(k:Int)+1:=IntWalk.i64_in _ (by omega);have SN:=M.O.at_.size;have hMl:=M.O.lt;have M5:=Qh (M.O.past (.cells #[.int .i64 x.num,.int .i64 x.aA,S x.bE,.slice eo x.aB.length ec,S x.aU,S x.sl] 56));have Ep:=M5.O.row;have z4:(wr.alloc (.cells #[.int .i64 x.num,.int .i64 x.aA,S x.bE,.slice eo x.aB.length ec,S x.aU,S x.sl] 56)).cell? ⟨w.heap.size+2,4,none⟩=some vk:=(cell_of_row _ _ 4 _ _ _ Ep).trans rfl;have z5:(wr.alloc (.cells #[.int .i64 x.num,.int .i64 x.aA,S x.bE,.slice eo x.aB.length ec,S x.aU,S x.sl] 56)).cell? ⟨w.heap.size+2,5,none⟩=some (.int .i64 (nA (bT L) L k).bg):=(cell_of_row _ _ 5 _ _ _ Ep).trans rfl;have z6:(wr.alloc (.cells #[.int .i64 x.num,.int .i64 x.aA,S x.bE,.slice eo x.aB.length ec,S x.aU,S x.sl] 56)).cell? ⟨w.heap.size+2,6,none⟩=some (S (nA (bT L) L k).str):=(cell_of_row _ _ 6 _ _ _ Ep).trans rfl;have ME:=Qh (GD (W:=wr) (s:=x) (ve:= .slice eo x.aB.length ec) (t:=56) rfl (Qb _ _));have lC:=Qh (Xn J (nA (bT L) L k) vk M5.O.rk ((k:Int)+1) _ M5.O.at_.ok);rw[Hb.O.1]at lC;clear cB h1 M;go_wp2_with fail
   refine lC.O.mono ?_;rintro e6 w6 ⟨MF,J6,rfl,gF,kW,fF,wY⟩;obtain⟨Cy,Cz,rfl,_,_,_⟩:=id wY;have M6:=Qh (M5.O.aR gF kW fF);have zx:=kW.keep M5.O.at_.ok (Qn _);have Ti:=Qh (fun b c hc=>zx b c (HJ.O b c hc));have KC:=Qh (ME.O.aR gF);have GG:=Qh (Aq.O.mono zx);have vK:=gF.size;rw[World.size_alloc]at vK;have MG:=M6.O.row;clear M5 z4 z5 z6 zb Ep lC gF kW fF ME Aq zx HJ c0 c1 c2 c3 c4 c5
   go_wp2_with (refine fO rfl rfl 43 _ _ rfl (w.heap.size+2) 4 [.slice Cy (eD L k x 0).aJ.length Cz,.int .i64 (eD L k x 0).bg,S (eD L k x 0).str] (fD (eD L k x 0) (.slice Cy (eD L k x 0).aJ.length Cz)) (by simp[Act.eval]) (by simp[Act.eval]) (by rfl) _ 46 MG (by simp) (by kernel_rfl) (by simp[Value.oneCell']) #[.int .i64 0,.int .i64 0,.string ⟨#[]⟩,.slice none 0 0,.slice Cy (eD L k x 0).aJ.length Cz,.int .i64 (eD L k x 0).bg,S (eD L k x 0).str,vt,vh] (by rfl) ?_
                intro w7 iy gN)
   have M7:=Qh (M6.O.put (S1:=lS L k x 0) iy gN wY M6.O.rt M6.O.rh);have GH:=Qh (KC.O.own iy (by simp;omega));have xV:=iy.size;obtain⟨n6,ui⟩:∃n6,n6=wr.heap.size:=⟨_,rfl⟩;rw[←ui]at GH ⊢;have Tj:w.heap.size+3≤n6∧n6<w7.heap.size:=by omega
   clear MG iy gN M6 KC wY ui vK xV;go_loopw [7] (fun s7 wr=> ∃(j:Nat) (K:IH) (vk vt vh:Value),j≤x.aB.length∧s7= .int .i64 j∧(∀b c,J6 b=some c→K b=some c)∧lD wr n6 x (.slice eo x.aB.length ec)∧um I w (.slice (some ⟨b,off,none⟩) L.length sc) K wr (lS L k x j) (eD L k x j) vk vt vh) (fun i _=>x.aB.length-(intOf i).toNat)
   case atStart=>exact⟨0,J6,_,_,_,Nat.zero_le _,rfl,fun _ _ h=>h,GH.O,M7.O⟩
   case round=>
    clear M7 GH;obtain⟨j,K,vk,vt,vh,hj,rfl,Gp,zy,hM⟩:=hrel;have M:=Qh hM;have CB:=Qh Gp;have SB:=Qh zy;have zs:=zy.c3;clear hM Gp zy;by_cases uj:j<x.aB.length
    ·obtain⟨e,va,vx,b2,mh,cap2,ul,dC,⟨c0,c1,c2,c3,c4,c5,c6⟩,h2,h3⟩:=wD (GG.O.mono CB.O) M.O.at_.ok j uj;cases dC;obtain⟨aa,ca,rfl,_,_,_⟩:=id h2;obtain⟨ax,cx,rfl,_,_,_⟩:=id h3;have Hs:=Qh (ZR HA.O hn hm hlt pM.O uj ul);have Hq:=Qh (ZT L k uj ul);have Ht:=Qh (ZU L k uj ul);obtain⟨kt,kh,ke⟩:=ZV Hs.O.ZW;have MH:=Qh kt;have MI:=Qh kh;have MJ:=Qh h2;have GI:=Qh h3;have hwM:=M.O.lt;clear ul h2 h3 kt kh ke;obtain⟨n8,AQ⟩:∃n8,n8=wr.heap.size:=⟨_,rfl⟩;go_upto_if 49 with fail
     have EB:=Qh (dP (W:=wr) (e:=e) (va:= .slice aa e.ag.length ca) (vx:= .slice ax e.aC.length cx) (t:=63) AQ (Qb _ _));rw[←AQ];obtain⟨wA,AR⟩:∃wA,wr.alloc (.cells #[.int .i64 e.av,S e.aj,.slice aa e.ag.length ca,S e.target,.int .i64 e.size,S e.aD,.slice ax e.aC.length cx] 63)=wA:=⟨_,rfl⟩;rw[AR]at EB ⊢;have MA:=Qh (M.O.past (.cells #[.int .i64 e.av,S e.aj,.slice aa e.ag.length ca,S e.target,.int .i64 e.size,S e.aD,.slice ax e.aC.length cx] 63));have AU:=Qh (SB.O.past (.cells #[.int .i64 e.av,S e.aj,.slice aa e.ag.length ca,S e.target,.int .i64 e.size,S e.aD,.slice ax e.aC.length cx] 63));rw[AR]at MA AU;have GJ:w.heap.size+3≤n8:=by omega
     clear AR M SB c0 c1 c2 c3 c4 c5 c6 AQ zs;have AV:=MA.O.row;have z4:wA.cell? ⟨w.heap.size+2,4,none⟩=some vk:=(cell_of_row _ _ 4 _ _ _ AV).trans rfl;have z5:wA.cell? ⟨w.heap.size+2,5,none⟩=some (.int .i64 (eD L k x j).bg):=(cell_of_row _ _ 5 _ _ _ AV).trans rfl;have z6:wA.cell? ⟨w.heap.size+2,6,none⟩=some (S (eD L k x j).str):=(cell_of_row _ _ 6 _ _ _ AV).trans rfl;go_cut [9,10] (fun s9 s10 wx=> ∃(K':IH) (oo:Value),(∀b c,K b=some c→K' b=some c)∧lD wx n6 x (.slice (some ⟨b2,mh,none⟩) x.aB.length ec)∧bP wx n8 e (.slice aa e.ag.length ca) (.slice ax e.aC.length cx)∧um I w (.slice (some ⟨b,off,none⟩) L.length sc) K' wx (lS L k x j) (mi (bT L) (eD L k x j) e) oo vt vh)
     case first=>
      by_cases ql:e.av=1;case neg=>
       have f1:(e.av==1)=false:=by simpa using ql
       have Hn:=Qh (show mi (bT L) (eD L k x j) e=eD L k x j from if_neg ql);clear ql;go_wp2_with fail
       go_meet;exact⟨K,vk,fun _ _ h=>h,AU.O,EB.O,by rw[Hn.O];exact MA.O⟩
      case pos=>
       have f1:(e.av==1)=true:=by simpa using ql
       obtain⟨ct,cn,EY⟩:∃ct cn,tF (bT L) e.aC=(ct,cn):=⟨_,_,rfl⟩;have bO:ct.length≤65536:=by have:=Xo (bT L) e.aC;rw[EY]at this;exact this
       obtain⟨q2,GK,n2,sZ⟩:∃q2 GK n2,jA (eD L k x j) ct=(q2,GK,n2):=⟨_,_,_,rfl⟩;have Hn:=Qh (show mi (bT L) (eD L k x j) e=q2 by rw[mi,if_pos ql,EY,sZ]);have CE:=Qh (Xr4 K (.slice lo (bT L).length lc) (.slice ax e.aC.length cx) (bT L) e.aC (bI.O.mono (fun b c hc=>CB.O b c (Ti.O b c hc))) GI.O (fun s hs=>by
        obtain⟨y,hy,rfl⟩:=List.mem_map.1 hs;obtain⟨i,hi,he⟩:=List.getElem_of_mem hy;have:=(HA.O.at_ hi he).aU;omega) wA MA.O.at_.ok)
       rw[EY]at CE;have MK:=Qh (fun w hw=>(by
        have yQ:=Hs.O.bf;have:=ZX 4294901760 10000000 (by decide) (by decide) K (eD L k x j) vk MA.O.rk ⟨by have:=yQ.s0;omega,by have:=yQ.s1;omega,yQ.str,Hs.O.aJ,fun k hk=>(yQ.cx k hk).x⟩ ct (by omega) w hw;rwa[sZ]at this:Calls Tryz.prog 40 #[fD (eD L k x j) vk,S ct] w (CF K w (q2,GK,n2))))
       have x6:=EB.O.c6;clear ql EY sZ;go_wp2_with fail
       refine CE.O.mono ?_;rintro e10 mf ⟨rfl,iJ⟩;have l8:=Qh (MA.O.quiet iJ);have uo:=l8.O.row;have z4:mf.cell? ⟨w.heap.size+2,4,none⟩=some vk:=(cell_of_row _ _ 4 _ _ _ uo).trans rfl;have z5:mf.cell? ⟨w.heap.size+2,5,none⟩=some (.int .i64 (eD L k x j).bg):=(cell_of_row _ _ 5 _ _ _ uo).trans rfl;have z6:mf.cell? ⟨w.heap.size+2,6,none⟩=some (S (eD L k x j).str):=(cell_of_row _ _ 6 _ _ _ uo).trans rfl;have AX:=Qh (AU.O.aR iJ);have AY:=Qh (EB.O.aR iJ);clear iJ CE MA AU EB AV x6;go_wp2_with fail
       refine(MK.O mf l8.O.at_.ok).mono ?_;rintro e11 sM ⟨Tk,Tm,Ro,rfl,mO,wE,jS,vS,AZ⟩;obtain⟨ak,ck,rfl,_,_,_⟩:=id vS;obtain⟨ay,cy,rfl,_,_,_⟩:=id AZ;have vT:=Qh (l8.O.aR mO wE jS);have GL:=vT.O.row;have AQ:=block_lt_of_cell AY.O.c0;have ui:=block_lt_of_cell AX.O.c0;have GM:=Qh (AX.O.aR mO);have nC:=Qh (AY.O.aR mO);have GN:=wE.keep l8.O.at_.ok (Qn _);clear mO wE jS l8 uo z4 z5 z6 MK
       go_wp2_with (refine fO rfl rfl 43 _ _ rfl (w.heap.size+2) 4 [.slice ak q2.aJ.length ck,.int .i64 q2.bg,S q2.str] (fD q2 (.slice ak q2.aJ.length ck)) (by simp[Act.eval]) (by simp[Act.eval]) (by rfl) _ 46 GL (by simp) (by kernel_rfl) (by simp[Value.oneCell']) #[.int .i64 0,.int .i64 0,.string ⟨#[]⟩,.slice none 0 0,.slice ak q2.aJ.length ck,.int .i64 q2.bg,S q2.str,vt,vh] (by rfl) ?_
                    intro Tn iK zz)
       go_meet;have Tp:w.heap.size+3≤n8:=GJ;rw[Hn.O]
       exact⟨Ro,_,GN,GM.O.own iK (by simp;omega),⟨fC iK (by simp;omega) nC.O.c0,fC iK (by simp;omega) nC.O.c1,fC iK (by simp;omega) nC.O.c2,fC iK (by simp;omega) nC.O.c3,fC iK (by simp;omega) nC.O.c4,fC iK (by simp;omega) nC.O.c5,fC iK (by simp;omega) nC.O.c6⟩,
        vT.O.put iK zz vS vT.O.rt vT.O.rh⟩
     case rest=>
     obtain⟨K',oo,Ce,zy,ML,hM⟩:=hcut;have M1:=Qh hM;have MM:=Qh (fun b c hc=>Ce b c (CB.O b c hc));have GQ:=Qh zy;have yV:=Qh ML;have Ba:=Qh (MJ.O.mono Ce);have Bb:=Qh (GI.O.mono Ce);clear hM Ce zy ML MA AU EB z4 z5 z6 AV CB MJ GI;obtain⟨S1,NW⟩:∃S1,(fK (lS L k x j) e x.aA).1=S1:=⟨_,rfl⟩;obtain⟨q1,rF⟩:∃q1,mi (bT L) (eD L k x j) e=q1:=⟨_,rfl⟩;rw[NW]at MH MI Ht;rw[rF]at Hq M1;have zA:=Qh (ZY K' vt (lS L k x j).aF M1.O.rt Hs.O.sin.GR (by have:=Hs.O.sin.ok.Bc;omega) e _ _ Ba.O Bb.O Hs.O.wf (by have:=Hs.O.aj;omega) (by have:=Hs.O.aC;omega) _ M1.O.at_.ok);rw[MH.O]at zA;obtain⟨at7,ct7,rfl,_,_,_⟩:=id M1.O.rt;obtain⟨x0,x1,x2,x3,x4,x5,x6⟩:=yV.O;have z7:wc.cell? ⟨w.heap.size+2,7,none⟩=some _:=(cell_of_row _ _ 7 _ _ _ M1.O.row).trans rfl;clear NW rF;go_wp2_with fail
     refine zA.O.mono ?_;rintro e2 w2 ⟨Xp,K2,rfl,aL,mK,bn,rY⟩;obtain⟨at2,wF,rfl,_,_,_⟩:=id rY;have M2:=Qh (M1.O.aR aL mK bn);have ui:=block_lt_of_cell GQ.O.c0;have AQ:=block_lt_of_cell yV.O.c0;have GU:=Qh (GQ.O.aR aL);have vU:=Qh (yV.O.aR aL);have uV:=mK.keep M1.O.at_.ok (Qn _);have Tq:=Qh (fun b c hc=>uV b c (MM.O b c hc));have NY:=M2.O.row;have pV:=aL.size;clear x0 x1 x2 x3 x4 x5 x6 z7 zA aL mK bn M1 GQ yV MM
     go_wp2_with (refine fO rfl rfl 40 _ _ rfl (w.heap.size+2) 7 [.slice at2 S1.aF.length wF] (.slice at2 S1.aF.length wF) (by simp[Act.eval]) (by simp[Act.eval]) (by rfl) _ 46 NY (by simp) (by kernel_rfl) (by simp[Value.oneCell']) #[.int .i64 0,.int .i64 0,.string ⟨#[]⟩,.slice none 0 0,oo,.int .i64 q1.bg,S q1.str,.slice at2 S1.aF.length wF,vh] (by rfl) ?_
                  intro w3 iX jK;have z8:w3.cell? ⟨w.heap.size+2,8,none⟩=some vh:=(cell_of_row _ _ 8 _ _ _ jK).trans rfl;have x0:=fC iX (by simp;omega) vU.O.c0;have x1:=fC iX (by simp;omega) vU.O.c1;have x2:=fC iX (by simp;omega) vU.O.c2;have x3:=fC iX (by simp;omega) vU.O.c3;have x4:=fC iX (by simp;omega) vU.O.c4;have x5:=fC iX (by simp;omega) vU.O.c5;have x6:=fC iX (by simp;omega) vU.O.c6;have y1:=(GU.O.own iX (by simp;omega)).c1)
     have M3:=Qh (M2.O.put (S1:=⟨S1.aF,(lS L k x j).holds⟩) iX jK M2.O.rk rY M2.O.rh);have MN:=Qh (GU.O.own iX (by simp;omega));have yn:=iX.size;have iA:=Qh (Z0 K2 vh (lS L k x j).holds M3.O.rh Hs.O.sin.ok.holds (by have:=Hs.O.sin.ok.hlen;omega) e _ _ (Ba.O.mono uV) (Bb.O.mono uV) Hs.O.err x.aA w3 M3.O.at_.ok);rw[MI.O]at iA;clear iX jK M2 GU vU NY;refine iA.O.mono ?_;rintro e4 w4 ⟨Z4,K4,rfl,aS,pX,dz,Bd⟩;obtain⟨CG,CJ,rfl,_,_,_⟩:=id Bd;have M4:=Qh (M3.O.aR aS pX dz);have Tt:=Qh (MN.O.aR aS);have Ag:=pX.keep M3.O.at_.ok (Qn _);have Tu:=M4.O.row;have Cv:=aS.size;clear x0 x1 x2 x3 x4 x5 x6 z8 y1 iA aS pX dz M3 MN
     go_wp2_with (refine fO rfl rfl 44 _ _ rfl (w.heap.size+2) 8 [.slice CG S1.holds.length CJ] (.slice CG S1.holds.length CJ) (by simp[Act.eval]) (by simp[Act.eval]) (by rfl) _ 46 Tu (by simp) (by kernel_rfl) (by simp[Value.oneCell']) #[.int .i64 0,.int .i64 0,.string ⟨#[]⟩,.slice none 0 0,oo,.int .i64 q1.bg,S q1.str,.slice at2 S1.aF.length wF,.slice CG S1.holds.length CJ] (by rfl) ?_
                  intro w5 hg5 oN)
     go_roundw
     case rel=>exact⟨j+1,K4,_,_,_,by omega,by go_num,fun b c hc=>Ag b c (Tq.O b c hc),Tt.O.own hg5 (by simp;omega),
      by rw[Hq.O,Ht.O];exact M4.O.put hg5 oN M4.O.rk M4.O.rt Bd⟩
     case measure=>simp[intOf];omega
    ·have GV:j=x.aB.length:=by omega
     subst GV;go_wp2;go_roundw;case rel=>exact⟨k+1,K,_,_,_,by omega,by go_num,fun b c hc=>CB.O b c (Ti.O b c hc),by rw[←Z5 hlt pM.O,←Z7 hlt pM.O];exact M.O⟩
     case measure=>simp[intOf];omega
  ·have mJ:k=L.length:=by omega
   subst mJ;have aK:=M.O.row;have z0:wr.cell? ⟨w.heap.size+2,0,none⟩=some _:=(cell_of_row _ _ 0 _ _ _ aK).trans rfl;have z1:wr.cell? ⟨w.heap.size+2,1,none⟩=some _:=(cell_of_row _ _ 1 _ _ _ aK).trans rfl;have z2:wr.cell? ⟨w.heap.size+2,2,none⟩=some _:=(cell_of_row _ _ 2 _ _ _ aK).trans rfl;have z3:wr.cell? ⟨w.heap.size+2,3,none⟩=some _:=(cell_of_row _ _ 3 _ _ _ aK).trans rfl;have z4:wr.cell? ⟨w.heap.size+2,4,none⟩=some _:=(cell_of_row _ _ 4 _ _ _ aK).trans rfl;have z5:wr.cell? ⟨w.heap.size+2,5,none⟩=some _:=(cell_of_row _ _ 5 _ _ _ aK).trans rfl;have z6:wr.cell? ⟨w.heap.size+2,6,none⟩=some _:=(cell_of_row _ _ 6 _ _ _ aK).trans rfl;have z7:wr.cell? ⟨w.heap.size+2,7,none⟩=some _:=(cell_of_row _ _ 7 _ _ _ aK).trans rfl;have z8:wr.cell? ⟨w.heap.size+2,8,none⟩=some _:=(cell_of_row _ _ 8 _ _ _ aK).trans rfl;have hl:=M.O.lt;rw[List.take_length,Ot]at M;rw[Ot]at z5 z6 aK;obtain⟨ak,ck,rfl,_,_,_⟩:=id M.O.rk;obtain⟨at',jT,rfl,_,_,_⟩:=id M.O.rt;obtain⟨ah,ch,rfl,_,_,_⟩:=id M.O.rh;have bR:=M.O.O;clear aK
   go_wp2_with (refine fO rfl rfl 46 _ _ rfl (w.heap.size+1) 0 (dA ⟨0,0,[],[],bB L,(aP aN L).aF,(aP aN L).holds⟩ (.slice none 0 0) (.slice ak (bB L).aJ.length ck) (.slice at' (aP aN L).aF.length jT) (.slice ah (aP aN L).holds.length ch)) (gP ⟨0,0,[],[],bB L,(aP aN L).aF,(aP aN L).holds⟩ (.slice none 0 0) (.slice ak (bB L).aJ.length ck) (.slice at' (aP aN L).aF.length jT) (.slice ah (aP aN L).holds.length ch)) (by simp[Act.eval]) (by simp[Act.eval]) (by rfl) _ 46 bR (by simp) (by kernel_rfl) (by simp[Value.oneCell']) (dA ⟨0,0,[],[],bB L,(aP aN L).aF,(aP aN L).holds⟩ (.slice none 0 0) (.slice ak (bB L).aJ.length ck) (.slice at' (aP aN L).aF.length jT) (.slice ah (aP aN L).holds.length ch)).toArray (by rfl) ?_
                intro w9 bK fB)
   refine bodyPost_ret (results_cell_row rfl _ _ (w.heap.size+1) _ (dA ⟨0,0,[],[],bB L,(aP aN L).aF,(aP aN L).holds⟩ (.slice none 0 0) (.slice ak (bB L).aJ.length ck) (.slice at' (aP aN L).aF.length jT) (.slice ah (aP aN L).holds.length ch)).toArray (0,0) _ rfl fB Tryz.underlying46 rfl oM.O) rfl ?_;exact⟨_,_,_,J,rfl,M.O.at_.eU.grown bK M.O.at_.size (fun k e=>by injection e with e;omega),M.O.ext,M.O.at_.ok.grown bK (fun g e=>by injection e with e;subst e;exact M.O.rZ),M.O.rk,M.O.rt,M.O.rh⟩
theorem Xqt{a b:List Ho}(hl:a.length=b.length)(h:∀i (hi:i<a.length),a[i]=b[i]'(by omega)):a=b:=List.ext_getElem hl fun i h1 _=>h i h1
theorem Xp5(a b:Ho)(W:World):(binOp .neq 106 (.agg #[S a.p,.int .i64 a.u]) (.agg #[S b.p,.int .i64 b.u])).run Tryz.prog W= .ok (.bool (!decide (a=b))) W:=by
 rw[Tv _ _ [(9,0,false),(3,1,false)] W (by kernel_rfl) (by kernel_rfl) (by kernel_rfl)];obtain⟨a1,a2⟩:=a;obtain⟨b1,b2⟩:=b;simp[go_sem];by_cases h1:a1=b1<;>by_cases h2:a2=b2<;>simp[h1,h2]<;>omega
theorem Xqa(I:IH)(va vb:Value)(a b:List Ho)(gK:aZ ku I va a)(pu:aZ ku I vb b)(w:World)(hw:Ok I w):
 Calls Tryz.prog 33 #[va,vb] w fun e w'=>e= .returned (.bool (decide (a=b)))∧Below w.heap.size w w':=by
 have Zp:=gK.bL;have Zq:=pu.bL;obtain⟨ao,ca,rfl,_,_,_⟩:=id gK;obtain⟨bo,cb,rfl,_,_,_⟩:=id pu;have Ha:=Qh gK;have Hb:=Qh pu;clear gK pu;by_cases hl:a.length=b.length;case neg=>
  have q1:((a.length:Int) !=b.length)=true:=by simpa using(show(a.length:Int)≠b.length by omega)
  have q2:((a.length:Int)==b.length)=false:=by simpa using(show(a.length:Int)≠b.length by omega)
  have Hn:=Qh (show decide (a=b)=false from Qf fun e=>hl (by rw[e]));clear hl;go_enter Tryz.func33,Tryz.ntmps33
  go_wp2;go_ret;exact⟨jr Hn.O.symm,Qb _ _⟩
 have q1:((a.length:Int) !=b.length)=false:=by rw[hl];simp
 have q2:((a.length:Int)==b.length)=true:=by rw[hl];simp
 have Hl:=Qh hl;have ul:a.length≤b.length:=by omega
 clear hl;go_enter Tryz.func33,Tryz.ntmps33
 go_wp2_with fail
 go_loopw [5] (fun s5 wr=> ∃k:Nat,k≤a.length∧s5= .int .i64 k∧(∀i (hi:i<a.length),i<k→a[i]=b[i]'(by have:=Hl.O;omega))∧Below w.heap.size w wr) (fun i _=>a.length-(intOf i).toNat)
 case atStart=>exact⟨0,Nat.zero_le _,rfl,fun i _ h=>absurd h (by omega),Qb _ _⟩
 case round=>
  obtain⟨k,hk,rfl,hr,hb⟩:=hrel;have Hr:=Qh hr;clear hr;have eX:Ok I wr:=hw.below (Qn _) hb;by_cases hlt:k<a.length
  ·have kg:k<b.length:=by omega
   obtain⟨x,b1,ale,alf,cB,dC,c0,c1⟩:=yu Ha.O eX k hlt;cases dC;obtain⟨y,b2,mh,cap2,kK,dC,d0,d1⟩:=yu Hb.O eX k kg;cases dC;have g0:=cell_regrown c0;have g1:=cell_regrown c1;have g2:=cell_regrown d0;have g3:=cell_regrown d1;have i1:(k:Int)<a.length:=by omega
   have i2:(k:Int)<b.length:=by omega
   have pM:=Qh cB;have KD:=Qh kK;clear cB kK;have yS:=Xp5 x y;by_cases sZ:x=y
   ·rw[Qt sZ]at yS;have Hn:=Qh (show ∀i (hi:i<a.length),i<k+1→a[i]=b[i]'(by have:=Hl.O;omega)from fun i hi h=>by
     by_cases hik:i<k
     ·exact Hr.O i hi hik
     ·have:i=k:=by omega
      subst this;rw[pM.O,KD.O,sZ])
    clear sZ;go_wp2_with fail
    refine wp_region_quiet_below (by kernel_rfl) (by kernel_rfl) ?_;repeat(go_big_quiet_step ((fail)))
    refine wpQuiet_nil ?_;intro w2 bJ;have aL:Below (wr).heap.size (wr) w2:=by
     obtain⟨pq,rfl⟩:=bJ;exact below_regrown _ _ _
    clear bJ;go_wp2;go_roundw;case rel=>exact⟨k+1,by omega,by go_num,Hn.O,hb.trans (aL.mono hb.size)⟩
    case measure=>simp[intOf];omega
   ·rw[Qf sZ]at yS;have Hn:=Qh (show decide (a=b)=false from Qf fun e=>sZ (by
     have h1:=pM.O;have h2:=KD.O;subst e;rw[←h1,←h2]))
    clear sZ;go_wp2_with fail
    refine wp_region_quiet_below (by kernel_rfl) (by kernel_rfl) ?_;repeat(go_big_quiet_step ((fail)))
    refine wpQuiet_nil ?_;intro w2 bJ;have aL:Below (wr).heap.size (wr) w2:=by
     obtain⟨pq,rfl⟩:=bJ;exact below_regrown _ _ _
    clear bJ;go_wp2;go_ret;exact⟨jr Hn.O.symm,hb.trans (aL.mono hb.size)⟩
  ·have Hn:=Qh (show decide (a=b)=true from Qt (Xqt Hl.O fun i hi=>Hr.O i hi (by omega)));go_wp2;go_ret;exact⟨jr Hn.O.symm,hb⟩
theorem Tw(I:IH)(v1 v2:Value)(l:List bD)(ny:aZ bM I v1 l)(pY:aZ bM I v2 l)(w:World)(hw:Ok I w):
 Calls Tryz.prog 31 #[v1,v2] w fun e w'=>e= .returned (.bool true)∧Below w.heap.size w w':=by
 have hlen:=ny.bL;obtain⟨ao,cap,rfl,fu,iv,_⟩:=id ny;obtain⟨qN,cap2,rfl,rG,tZ,_⟩:=id pY;have KE:=Qh ny;clear ny;have KF:=Qh pY;clear pY;go_enter Tryz.func31,Tryz.ntmps31
 go_wp2_with fail
 go_loopw [5] (fun s5 wr=> ∃k:Nat,k≤l.length∧s5= .int .i64 k∧Below w.heap.size w wr) (fun i _=>l.length-(intOf i).toNat)
 case atStart=>exact⟨0,Nat.zero_le _,rfl,Qb _ _⟩
 case round=>
  obtain⟨k,hk,rfl,hb⟩:=hrel;by_cases hlt:k<l.length
  ·have eX:Ok I wr:=hw.below (Qn _) hb;obtain⟨x,va,vx,b,off,cap',cB,dC,⟨c0,c1,c2,c3,c4,c5,c6⟩,h1,h2⟩:=wD KE.O eX k hlt;cases dC;obtain⟨y,vb,vy,b',off',sN,kK,dC,⟨d0,d1,d2,d3,d4,d5,d6⟩,h3,h4⟩:=wD KF.O eX k hlt;cases dC;obtain rfl:x=y:=cB.symm.trans kK;have MO:=Qh (fun W hW=>Xnq I x x va vx vb vy h1 h2 h3 h4 W hW);rw[Qt (rfl:x=x)]at MO;obtain⟨aa,ca,rfl,_,_,_⟩:=id h1;obtain⟨ax,cx,rfl,_,_,_⟩:=id h2;obtain⟨MP,MQ,rfl,_,_,_⟩:=id h3;obtain⟨MR,MS,rfl,_,_,_⟩:=id h4;have c0:=cell_regrown c0;have c1:=cell_regrown c1;have c2:=cell_regrown c2;have c3:=cell_regrown c3;have c4:=cell_regrown c4;have c5:=cell_regrown c5;have c6:=cell_regrown c6;have d0:=cell_regrown d0;have d1:=cell_regrown d1;have d2:=cell_regrown d2;have d3:=cell_regrown d3;have d4:=cell_regrown d4;have d5:=cell_regrown d5;have d6:=cell_regrown d6;clear cB kK h1 h2 h3 h4;go_wp2_with fail
   refine wp_region_quiet_below (by kernel_rfl) (by kernel_rfl) ?_;repeat(go_big_quiet_step ((with_reducible exact Calls.regrown_of (MO.O _ (eX.below (Qn _) (below_regrown _ _ _))))))
   refine wpQuiet_nil ?_;intro w2 bJ;have aL:Below (wr).heap.size (wr) w2:=by
    obtain⟨pq,rfl⟩:=bJ;exact below_regrown _ _ _
   clear bJ;go_wp2;go_roundw;case rel=>exact⟨k+1,by omega,by go_num,hb.trans (aL.mono hb.size)⟩
   case measure=>simp[intOf];omega
  ·go_wp2;go_ret;exact⟨rfl,hb⟩
theorem Xp6(c:Ck)(W:World):(binOp .neq 103 (.agg #[S c.d,.int .i64 c.x.s,.int .i64 c.x.o,.int .i64 c.x.n]) (.agg #[S c.d,.int .i64 c.x.s,.int .i64 c.x.o,.int .i64 c.x.n])).run Tryz.prog W= .ok (.bool false) W:=by
 rw[Tv _ _ [(9,0,false),(65,1,false)] W (by kernel_rfl) (by kernel_rfl) (by kernel_rfl)];have h:∀W,(Op.equalIn (9998+1) 65 (.agg #[.int .i64 c.x.s,.int .i64 c.x.o,.int .i64 c.x.n]) (.agg #[.int .i64 c.x.s,.int .i64 c.x.o,.int .i64 c.x.n])).run Tryz.prog W= .ok true W:=fun W=>by
  rw[run_equalIn_agg _ _ _ _ _ (by kernel_rfl) (by kernel_rfl),Z8,show((Tryz.prog.fieldsOf 65).toList.map fun f=> (f.type,f.offset,f.name== "_"))=[(3,0,false),(3,1,false),(3,2,false)] by kernel_rfl];simp[go_sem]
 simp[go_sem,h]
theorem Xuf(I:IH)(q:ib)(v1 v2:Value)(ny:aZ si I v1 q.aJ)(pY:aZ si I v2 q.aJ)(w:World)(hw:Ok I w):
 Calls Tryz.prog 32 #[fD q v1,fD q v2] w fun e w'=>e= .returned (.bool true)∧Below w.heap.size w w':=by
 have hlen:=ny.bL;obtain⟨ao,cap,rfl,fu,iv,_⟩:=id ny;obtain⟨qN,cap2,rfl,rG,tZ,_⟩:=id pY;have KE:=Qh ny;clear ny;have KF:=Qh pY;clear pY;have bn:Ok I ((w.alloc (.cells #[.slice ao q.aJ.length cap,.int .i64 q.bg,S q.str] 43)).alloc (.cells #[.slice qN q.aJ.length cap2,.int .i64 q.bg,S q.str] 43)):=(hw.alloc _).alloc _;go_enter Tryz.func32,Tryz.ntmps32
 go_wp2_with fail
 obtain⟨W,hW⟩:∃W,((w.alloc (.cells #[.slice ao q.aJ.length cap,.int .i64 q.bg,S q.str] 43)).alloc (.cells #[.slice qN q.aJ.length cap2,.int .i64 q.bg,S q.str] 43))=W:=⟨_,rfl⟩;have R0:W.heap[w.heap.size]?=some (.cells #[.slice ao q.aJ.length cap,.int .i64 q.bg,S q.str] 43 (0,0)):=by rw[←hW];exact(Below.heap_alloc _ _ _ (by simp)).trans (heap_alloc_new w _)
 have R1:W.heap[w.heap.size+1]?=some (.cells #[.slice qN q.aJ.length cap2,.int .i64 q.bg,S q.str] 43 (0,0)):=by
  rw[←hW];have h:=heap_alloc_new (w.alloc (.cells #[.slice ao q.aJ.length cap,.int .i64 q.bg,S q.str] 43)) (.cells #[.slice qN q.aJ.length cap2,.int .i64 q.bg,S q.str] 43);rwa[World.size_alloc]at h
 have eG:Below w.heap.size w W:=by rw[←hW];exact((Qb _ _).alloc (Qn _) _).alloc (by simp) _
 rw[hW]at bn;have hsW:W.heap.size=w.heap.size+2:=by rw[←hW];simp
 have H0:=Qh (cell_of_row W w.heap.size 0 _ _ _ R0);have H1:=Qh (cell_of_row W (w.heap.size+1) 0 _ _ _ R1);change Code.wp _ _ _ _ ((w.alloc (.cells #[.slice ao q.aJ.length cap,.int .i64 q.bg,S q.str] 43)).alloc (.cells #[.slice qN q.aJ.length cap2,.int .i64 q.bg,S q.str] 43));rw[hW];clear hW R0 R1;go_loopw [5] (fun s5 wr=> ∃k:Nat,k≤q.aJ.length∧s5= .int .i64 k∧Below W.heap.size W wr) (fun i _=>q.aJ.length-(intOf i).toNat)
 case atStart=>exact⟨0,Nat.zero_le _,rfl,Qb _ _⟩
 case round=>
  obtain⟨k,hk,rfl,hb⟩:=hrel;have z0:wr.cell? ⟨w.heap.size,0,none⟩=some (.slice ao q.aJ.length cap):=(hb.cell (by show w.heap.size<_;omega)).trans (H0.O.trans rfl);have z1:wr.cell? ⟨w.heap.size+1,0,none⟩=some (.slice qN q.aJ.length cap2):=(hb.cell (by show w.heap.size+1<_;omega)).trans (H1.O.trans rfl);have aT:=eG.trans (hb.mono eG.size);by_cases hlt:k<q.aJ.length
  ·have eX:Ok I wr:=bn.below (Qn _) hb;obtain⟨x,b,off,cap',cB,dC,c0,c1,c2,c3⟩:=KG KE.O eX k hlt;cases dC;obtain⟨y,b',off',sN,kK,dC,d0,d1,d2,d3⟩:=KG KF.O eX k hlt;cases dC;obtain rfl:x=y:=cB.symm.trans kK;have yS:=Xp6 x;clear cB kK;go_wp2_with fail
   have z0:=cell_regrown z0;have z1:=cell_regrown z1;have c0:=cell_regrown c0;have c1:=cell_regrown c1;have c2:=cell_regrown c2;have c3:=cell_regrown c3;have d0:=cell_regrown d0;have d1:=cell_regrown d1;have d2:=cell_regrown d2;have d3:=cell_regrown d3;refine wp_region_quiet_below (by kernel_rfl) (by kernel_rfl) ?_;repeat(go_big_quiet_step ((fail)))
   refine wpQuiet_nil ?_;intro w2 bJ;have aL:Below (wr).heap.size (wr) w2:=by
    obtain⟨pq,rfl⟩:=bJ;exact below_regrown _ _ _
   clear bJ;go_wp2;go_roundw;case rel=>exact⟨k+1,by omega,by go_num,hb.trans (aL.mono hb.size)⟩
   case measure=>simp[intOf];omega
  ·go_wp2;go_ret;exact⟨rfl,aT⟩
theorem Xed(I:IH)(s:bV)(v1 v2:Value)(ny:aZ bM I v1 s.aB)(pY:aZ bM I v2 s.aB)(w:World)(hw:Ok I w):
 Calls Tryz.prog 16 #[nD s v1,nD s v2] w fun e w'=>e= .returned (.bool true)∧Below w.heap.size w w':=by
 have He:=Qh (fun w hw=>Tw I v1 v2 s.aB ny pY w hw);obtain⟨ao,cap,rfl,_,_,_⟩:=id ny;obtain⟨qN,cap2,rfl,_,_,_⟩:=id pY;clear ny pY;go_enter Tryz.func16,Tryz.ntmps16
 go_wp2_with fail
 refine(He.O _ ((hw.alloc _).alloc _)).mono ?_;rintro e1 w1 ⟨rfl,aG⟩;have hb:=(((Qb w.heap.size w).alloc (Qn _) (.cells #[.int .i64 s.num,.int .i64 s.aA,S s.bE,.slice ao s.aB.length cap,S s.aU,S s.sl] 56)).alloc (by simp) (.cells #[.int .i64 s.num,.int .i64 s.aA,S s.bE,.slice qN s.aB.length cap2,S s.aU,S s.sl] 56)).trans (aG.mono (by simp;omega));go_wp2;go_ret;exact⟨rfl,hb⟩
theorem GX(w:World)(a b:Array Value)(ta tb:TypeId)(W:World)(hW:(w.alloc (.cells a ta)).alloc (.cells b tb)=W):
 W.heap.size=w.heap.size+2∧W.heap[w.heap.size]?=some (.cells a ta (0,0))∧W.heap[w.heap.size+1]?=some (.cells b tb (0,0))∧Below w.heap.size w W:=by
 subst hW;refine⟨by simp,(Below.heap_alloc _ _ _ (by simp)).trans (heap_alloc_new w _),?_,((Qb _ _).alloc (Qn _) _).alloc (by simp) _⟩;have h:=heap_alloc_new (w.alloc (.cells a ta)) (.cells b tb);rwa[World.size_alloc]at h
theorem Xfx(I:IH)(d:fU)(ve vk vt vh ue uk ut uh:Value)(h1:qy I d ve vk vt vh)(h2:qy I d ue uk ut uh)(w:World)(hw:Ok I w):
 Calls Tryz.prog 13 #[gP d ve vk vt vh,gP d ue uk ut uh] w fun e w'=>e= .returned (.bool true)∧Below w.heap.size w w':=by
 have He:=Qh (fun w hw=>Tw I ve ue d.aB h1.aB h2.aB w hw);have Hk:=Qh (fun w hw=>Xuf I d.bf vk uk h1.aJ h2.aJ w hw);have Ht:=Qh (fun w hw=>Tw I vt ut d.aF h1.aF h2.aF w hw);have Hh:=Qh (fun w hw=>Xqa I vh uh d.holds d.holds h1.holds h2.holds w hw);rw[Qt (rfl:d.holds=d.holds)]at Hh;obtain⟨ao,ac,rfl,_,_,_⟩:=id h1.aB;obtain⟨bo,bc,rfl,_,_,_⟩:=id h1.aJ;obtain⟨co,cc,rfl,_,_,_⟩:=id h1.aF;obtain⟨eo,ec,rfl,_,_,_⟩:=id h1.holds;obtain⟨Xq,ac',rfl,_,_,_⟩:=id h2.aB;obtain⟨bo',bc',rfl,_,_,_⟩:=id h2.aJ;obtain⟨co',cc',rfl,_,_,_⟩:=id h2.aF;obtain⟨eo',ec',rfl,_,_,_⟩:=id h2.holds;obtain⟨W,hW⟩:∃W,((w.alloc (.cells #[.int .i64 d.num,.int .i64 d.aA,S d.bE,.slice ao d.aB.length ac,.slice bo d.bf.aJ.length bc,.int .i64 d.bf.bg,S d.bf.str,.slice co d.aF.length cc,.slice eo d.holds.length ec] 46)).alloc (.cells #[.int .i64 d.num,.int .i64 d.aA,S d.bE,.slice Xq d.aB.length ac',.slice bo' d.bf.aJ.length bc',.int .i64 d.bf.bg,S d.bf.str,.slice co' d.aF.length cc',.slice eo' d.holds.length ec'] 46))=W:=⟨_,rfl⟩;obtain⟨bS,r0,r1,eG⟩:=GX w _ _ _ _ W hW;have D0:=Qh (drB_row r0);have D1:=Qh (drB_row r1);have CK:Ok I W:=by rw[←hW];exact(hw.alloc _).alloc _
 obtain⟨a0,a1,a2,a3,a4,a5,a6,a7,a8⟩:=drB_row r0;obtain⟨b0,b1,b2,b3,b4,b5,b6,b7,b8⟩:=drB_row r1;clear h1 h2 r0 r1;go_enter Tryz.func13,Tryz.ntmps13
 go_wp2_with fail
 refine(He.O W CK).mono ?_;rintro e1 w1 ⟨rfl,aG⟩;have aO:=CK.below (Qn _) aG;have D0:=Qh (D0.O.aR aG);have D1:=Qh (D1.O.aR aG);have eG:=eG.trans (aG.mono (by omega));clear a0 a1 a2 a3 a4 a5 a6 a7 a8 b0 b1 b2 b3 b4 b5 b6 b7 b8 aG hW He;obtain⟨a0,a1,a2,a3,a4,a5,a6,a7,a8⟩:=D0.O;obtain⟨b0,b1,b2,b3,b4,b5,b6,b7,b8⟩:=D1.O;go_wp2_with fail
 refine(Hk.O w1 aO).mono ?_;rintro e2 w2 ⟨rfl,aL⟩;have bn:=aO.below (Qn _) aL;have D0:=Qh (D0.O.aR aL);have D1:=Qh (D1.O.aR aL);have eG:=eG.trans (aL.mono eG.size);clear a0 a1 a2 a3 a4 a5 a6 a7 a8 b0 b1 b2 b3 b4 b5 b6 b7 b8 aL Hk;obtain⟨a0,a1,a2,a3,a4,a5,a6,a7,a8⟩:=D0.O;obtain⟨b0,b1,b2,b3,b4,b5,b6,b7,b8⟩:=D1.O;go_wp2_with fail
 refine(Ht.O w2 bn).mono ?_;rintro e3 w3 ⟨rfl,dO⟩;have fo:=bn.below (Qn _) dO;have D0:=Qh (D0.O.aR dO);have D1:=Qh (D1.O.aR dO);have eG:=eG.trans (dO.mono eG.size);clear a0 a1 a2 a3 a4 a5 a6 a7 a8 b0 b1 b2 b3 b4 b5 b6 b7 b8 dO Ht;obtain⟨a0,a1,a2,a3,a4,a5,a6,a7,a8⟩:=D0.O;obtain⟨b0,b1,b2,b3,b4,b5,b6,b7,b8⟩:=D1.O;go_wp2_with fail
 refine(Hh.O w3 fo).mono ?_;rintro e4 w4 ⟨rfl,aS⟩;have eG:=eG.trans (aS.mono eG.size);go_wp2;go_ret;exact⟨rfl,eG⟩
structure qg (I:IH) (w0:World) (ai dt sp:Int) (vs:Value) (n1:Nat) (zr:Array Value) (ty:TypeId) (J:IH) (W:World):Prop where
 at_:lJ I w0 J W
 ext:Ext w0.heap.size I J
 rZ:J n1=none
 a0:W.cell? ⟨w0.heap.size,0,none⟩=some (.int .u32 ai)
 a1:W.cell? ⟨w0.heap.size,1,none⟩=some (.int .i64 dt)
 a2:W.cell? ⟨w0.heap.size,2,none⟩=some (.int .i64 sp)
 a3:W.cell? ⟨w0.heap.size,3,none⟩=some vs
 O:W.heap[n1]?=some (.cells zr ty (0,0))
section
variable {I:IH} {w0:World} {ai dt sp:Int} {vs:Value} {n1:Nat} {zr:Array Value} {ty:TypeId} {J J':IH} {W W':World}
theorem qg.lt(h:qg I w0 ai dt sp vs n1 zr ty J W):n1<W.heap.size:=(Qg h.O)
theorem qg.aR(h:qg I w0 ai dt sp vs n1 zr ty J W)(hb:Below W.heap.size W W')(hx:Ext W.heap.size J J')(iZ:Ok J' W'):qg I w0 ai dt sp vs n1 zr ty J' W':=
 ⟨h.at_.ext hb hx iZ,h.ext.trans hx h.at_.size,(hx _ h.lt).trans h.rZ,aV hb h.a0,aV hb h.a1,aV hb h.a2,aV hb h.a3,(hb.block _ h.lt).trans h.O⟩
theorem qg.quiet(h:qg I w0 ai dt sp vs n1 zr ty J W)(hb:Below W.heap.size W W'):qg I w0 ai dt sp vs n1 zr ty J W':=h.aR hb (Ext.refl _ _) (h.at_.ok.below (Qn _) hb)
theorem qg.own(h:qg I w0 ai dt sp vs n1 zr ty J W){row:Option Nat}(hg:W.grownBy W' row)(hr:∀g,row=some g→J g=none∧w0.heap.size<g∧n1<g):qg I w0 ai dt sp vs n1 zr ty J W':=by
 have bq:row≠some w0.heap.size:=fun e=>by have:=(hr _ e).2.1;omega
 exact⟨⟨h.at_.ok.grown hg fun g e=>(hr g e).1,h.at_.keep,h.at_.eU.grown hg h.at_.size fun g e=>by have:=(hr g e).2.1;omega⟩,h.ext,h.rZ,fC hg bq h.a0,fC hg bq h.a1,fC hg bq h.a2,fC hg bq h.a3,
  (hg.block _ h.lt (fun e=>by have:=(hr _ e.symm).2.2;omega)).trans h.O⟩
end
theorem MU{w:World}(hw:Ok I w)(ai dt sp:Int)(vs:Value)(zr:Array Value)(ty:TypeId):qg I w ai dt sp vs (w.heap.size+1) zr ty I ((w.alloc (.cells #[.int .u32 ai,.int .i64 dt,.int .i64 sp,vs] 30)).alloc (.cells zr ty)):=by
 obtain⟨_,r0,r1,_⟩:=GX w #[.int .u32 ai,.int .i64 dt,.int .i64 sp,vs] zr 30 ty _ rfl;exact⟨((lJ.start hw).past _).past _,Ext.refl _ _,hw.fresh (by omega),(cell_of_row _ _ 0 _ _ _ r0).trans rfl,(cell_of_row _ _ 1 _ _ _ r0).trans rfl,(cell_of_row _ _ 2 _ _ _ r0).trans rfl,(cell_of_row _ _ 3 _ _ _ r0).trans rfl,r1⟩
theorem qg.bad{w0:World}{ai dt sp:Int}{vs:Value}{J:IH}{W w9:World}(h:qg I w0 ai dt sp vs (w0.heap.size+1) aY 46 J W)(hg:W.grownBy w9 (some (w0.heap.size+1))){p:fU×Int}{r:Int}(hp:p=(qY,r)):
 uq I w0 p.1 p.2 (.returned (.tuple #[.agg aY,.int .i64 r])) w9:=by
 subst hp;exact⟨.slice none 0 0,.slice none 0 0,.slice none 0 0,.slice none 0 0,J,rfl,h.at_.eU.grown hg h.at_.size (fun k e=>by injection e with e;omega),h.ext,h.at_.ok.grown hg (fun g e=>by injection e with e;subst e;exact h.rZ),⟨aZ.nil _ _,aZ.nil _ _,aZ.nil _ _,aZ.nil _ _⟩⟩
theorem Xl0(I:IH)(ai dt sp:Int)(L:List bV)(h:eT n m L)(hn:n≤150)(hm:m≤250)(vs:Value)(fV:aZ fw I vs L)(aA:Int)(w:World)(hw:Ok I w):
 Calls Tryz.prog 12 #[bW ai dt sp vs,.int .i64 aA] w (uq I w (jB L aA).1 (jB L aA).2):=by
 have hlen:=h.len;have bI:=Qh (fun w hw=>ZP I ai dt sp L h hn (by omega) vs fV w hw);have Er:=Qh (fun J (hk:∀b c,I b=some c→J b=some c) w hw=>Xo1 J ai dt sp L vs (fV.mono hk) (h.CL (by omega) (by omega)) w hw);have KH:=Qh (h.wZ (by omega) (by omega));have CO:=Qh h.xg;have ma:=Qh fV;have oM:=Qh (show(Tryz.prog.info? 46).map (·.size)=some 9 by kernel_rfl);obtain⟨so,sc,rfl,_,_,_⟩:=id fV;have M:=Qh (MU hw ai dt sp (.slice so L.length sc) aY 46);have hb:jB L aA=if bQ L aA≠0 then(qY,bQ L aA)else(dK L aA,0):=rfl;have d1:decide ((255:Int)≤(L.length:Int))=false:=Qf (by omega);have Cf:bQ L aA=if aA<0∨1000000000<aA then 2 else if aA<fP L then 14 else 0:=by unfold bQ;rw[if_neg (by omega)]
 have Hb:=Qh hb;have lC:=Qh Cf;clear h fV hb Cf;obtain⟨W2,kU⟩:∃W2,((w.alloc (.cells #[.int .u32 ai,.int .i64 dt,.int .i64 sp,.slice so L.length sc] 30)).alloc (.cells aY 46))=W2:=⟨_,rfl⟩;rw[kU]at M;obtain⟨z0,z1,z2,z3⟩:=(⟨M.O.a0,M.O.a1,M.O.a2,M.O.a3⟩:_∧_∧_∧_);go_enter Tryz.func12,Tryz.ntmps12
 go_upto_region 4 with fail
 obtain⟨B,hB⟩:∃B:Bool,decide (aA<0∨1000000000<aA)=B:=⟨_,rfl⟩;clear kU;go_cut [19] (fun Ou wx=>Ou= .bool B∧W2=wx)
 case first=>
  by_cases q1:aA<0
  ·have i1:decide (aA<0)=true:=Qt q1;have gV:B=true:=by rw[←hB];exact Qt (.inl q1)
   subst gV;clear hB q1;go_wp2_with fail
   go_meet;exact⟨rfl,rfl⟩
  ·have i1:decide (aA<0)=false:=Qf q1;by_cases q2:1000000000<aA
   ·have i2:decide (1000000000<aA)=true:=Qt q2;have gV:B=true:=by rw[←hB];exact Qt (.inr q2)
    subst gV;clear hB q1 q2;go_wp2_with fail
    go_meet;exact⟨rfl,rfl⟩
   ·have i2:decide (1000000000<aA)=false:=Qf q2;have gV:B=false:=by rw[←hB];exact Qf (by omega)
    subst gV;clear hB q1 q2;go_wp2_with fail
    go_meet;exact⟨rfl,rfl⟩
 case rest=>
 obtain⟨rfl,hcut⟩:=hcut;subst hcut;cases B;case true=>
  have Hn:=Qh (show jB L aA=(qY,2) by rw[Hb.O,lC.O,if_pos (of_decide_eq_true hB)];rfl);clear hB z0 z1 z2 z3;have bR:=M.O.O
  go_wp2_with (refine fO rfl rfl 46 _ _ rfl (w.heap.size+1) 0 aY.toList (.agg aY) (by simp[Act.eval]) (by simp[Act.eval]) (by rfl) aY 46 bR (by simp) (by kernel_rfl) (by simp[Value.oneCell']) aY (by rfl) ?_
               intro w9 bK fB)
  refine bodyPost_ret (v:= .tuple #[.agg aY,.int .i64 2]) ?_ rfl (M.O.bad bK Hn.O);rw[results_cell_tmp rfl];simp[asAddr,run_loadVar_row w9 (w.heap.size+1) 46 46 _ (0,0) _ fB Tryz.underlying46 rfl oM.O]
 replace lC:=Qh (lC.O.trans (if_neg (of_decide_eq_false hB)));have Kg:0≤aA∧aA≤1000000000:=by have:=of_decide_eq_false hB;omega
 clear hB;obtain⟨B,hB⟩:∃B:Bool,decide (aA<fP L)=B:=⟨_,rfl⟩;go_upto_region 6 with fail
 go_cut [33] (fun Tx wx=>Tx= .bool B∧W2=wx)
 case first=>
  rcases MV L with rfl|⟨k,hk,oh,kI⟩
  ·have gV:B=false:=by rw[←hB];exact Qf (by show ¬aA<0;omega)
   subst gV;clear hB;go_wp2_with fail
   go_meet;exact⟨rfl,rfl⟩
  ·have Hn:=Qh (show fP L=L[k].aA by unfold fP;rw[kI]);obtain⟨x,ve,b,off,cap',cB,dC,DX,mG⟩:=Cx (ma.O.mono M.O.at_.keep) M.O.at_.ok k hk;cases dC;obtain⟨c0,c1,c2,c3,c4,c5⟩:=DX;have m1:IntKind.i64.wrap ((L.length:Int)-1)=(k:Int):=by rw[show(L.length:Int)-1=(k:Int) by omega];exact IntWalk.i64_in _ (by omega)
   have i1:(k:Int)<(L.length:Int):=by omega
   have i0:decide (0<(L.length:Int))=true:=Qt (by omega);have gV:decide (aA<x.aA)=B:=by rw[←hB,Hn.O,cB]
   clear cB hB Hn kI mG;go_wp2_with fail
   go_meet;exact⟨by first|rfl|rw[gV],rfl⟩
 case rest=>
 obtain⟨rfl,hcut⟩:=hcut;subst hcut;cases B;case true=>
  have Hn:=Qh (show jB L aA=(qY,14) by rw[Hb.O,lC.O,if_pos (of_decide_eq_true hB)];rfl);clear hB z0 z1 z2 z3;have bR:=M.O.O
  go_wp2_with (refine fO rfl rfl 46 _ _ rfl (w.heap.size+1) 0 aY.toList (.agg aY) (by simp[Act.eval]) (by simp[Act.eval]) (by rfl) aY 46 bR (by simp) (by kernel_rfl) (by simp[Value.oneCell']) aY (by rfl) ?_
               intro w9 bK fB)
  refine bodyPost_ret (v:= .tuple #[.agg aY,.int .i64 14]) ?_ rfl (M.O.bad bK Hn.O);rw[results_cell_tmp rfl];simp[asAddr,run_loadVar_row w9 (w.heap.size+1) 46 46 _ (0,0) _ fB Tryz.underlying46 rfl oM.O]
 have Hn:=Qh (show jB L aA=(dK L aA,0) by rw[Hb.O,lC.O,if_neg (of_decide_eq_false hB)];rfl);clear hB Hb lC;go_wp2_with fail
 refine(bI.O W2 M.O.at_.ok).mono ?_;rintro e1 w1 ⟨vk,vt,vh,J1,rfl,aG,iY,aO,x8,Ah,Be⟩;obtain⟨ak,ck,rfl,_,_,_⟩:=id x8;obtain⟨at',jT,rfl,_,_,_⟩:=id Ah;obtain⟨ah,ch,rfl,_,_,_⟩:=id Be;have M1:=Qh (M.O.aR aG iY aO);have Az:=M1.O.lt;have yw:J1 w1.heap.size=none:=aO.fresh (Qn _);have m1:IntKind.i64.wrap ((L.length:Int)+1)=(L.length:Int)+1:=IntWalk.i64_in _ (by omega);have CP:=Qh ((KH.O.begin (by omega)).1);clear z0 z1 z2 z3 aG iY aO M bI
 go_wp2_with (refine fO rfl rfl 46 _ _ rfl w1.heap.size 0 (dA (⟨0,0,[],[],bB L,(aP aN L).aF,(aP aN L).holds⟩:fU) (.slice none 0 0) (.slice ak (bB L).aJ.length ck) (.slice at' (aP aN L).aF.length jT) (.slice ah (aP aN L).holds.length ch)) (gP (⟨0,0,[],[],bB L,(aP aN L).aF,(aP aN L).holds⟩:fU) (.slice none 0 0) (.slice ak (bB L).aJ.length ck) (.slice at' (aP aN L).aF.length jT) (.slice ah (aP aN L).holds.length ch)) (by simp[Act.eval]) (by simp[Act.eval]) (by rfl) aY 46 (heap_alloc_new _ _) (by simp) (by kernel_rfl) (by simp[Value.oneCell']) (dA (⟨0,0,[],[],bB L,(aP aN L).aF,(aP aN L).holds⟩:fU) (.slice none 0 0) (.slice ak (bB L).aJ.length ck) (.slice at' (aP aN L).aF.length jT) (.slice ah (aP aN L).holds.length ch)).toArray (by rfl) ?_
              intro w2 hg2 iN;have z0:=fC hg2 (by simp;omega) (kM (.cells aY 46) M1.O.a0);have z1:=fC hg2 (by simp;omega) (kM (.cells aY 46) M1.O.a1);have z2:=fC hg2 (by simp;omega) (kM (.cells aY 46) M1.O.a2);have z3:=fC hg2 (by simp;omega) (kM (.cells aY 46) M1.O.a3))
 have M2:=Qh (M1.O.quiet (((Qb _ _).alloc (Qn _) _).grown hg2 (by simp) (fun k e=>by injection e with e;omega)));have pV:=(Qg iN);clear z0 z1 z2 z3 M1 hg2;refine(Er.O J1 M2.O.at_.keep w2 M2.O.at_.ok).mono ?_;rintro e3 w3 ⟨rfl,dO⟩;have M3:=Qh (M2.O.quiet dO);have jK:=(dO.block _ pV).trans iN;clear dO iN M2 Er;have Es:∀g,some w1.heap.size=some g→J1 g=none∧w.heap.size<g∧w.heap.size+1<g:=fun g e=>by injection e with e;subst e;exact⟨yw,by omega,by omega⟩
 go_wp2_with (first
  |(refine fO rfl rfl 3 _ _ rfl w1.heap.size 0 [.int .i64 ((L.length:Int)+1)] (.int .i64 ((L.length:Int)+1)) (by simp[Act.eval]) (by simp[Act.eval]) (by rfl) _ 46 jK (by simp) (by kernel_rfl) (by simp[Value.oneCell']) #[.int .i64 ((L.length:Int)+1),.int .i64 0,S [],.slice none 0 0,(.slice ak (bB L).aJ.length ck),.int .i64 (bB L).bg,S (bB L).str,(.slice at' (aP aN L).aF.length jT),(.slice ah (aP aN L).holds.length ch)] (by rfl) ?_
    intro w4 Jv Ai)
  |(refine fO rfl rfl 3 _ _ rfl w1.heap.size 1 [.int .i64 aA] (.int .i64 aA) (by simp[Act.eval]) (by simp[Act.eval]) (by rfl) _ 46 Ai (by simp) (by kernel_rfl) (by simp[Value.oneCell']) #[.int .i64 ((L.length:Int)+1),.int .i64 aA,S [],.slice none 0 0,(.slice ak (bB L).aJ.length ck),.int .i64 (bB L).bg,S (bB L).str,(.slice at' (aP aN L).aF.length jT),(.slice ah (aP aN L).holds.length ch)] (by rfl) ?_
    intro w5 hg5 oN)
  |(refine fO rfl rfl 9 _ _ rfl w1.heap.size 2 [S (dD L)] (S (dD L)) (by simp[Act.eval]) (by simp[Act.eval]) (by rfl) _ 46 oN (by simp) (by kernel_rfl) (by simp[Value.oneCell']) #[.int .i64 ((L.length:Int)+1),.int .i64 aA,S (dD L),.slice none 0 0,(.slice ak (bB L).aJ.length ck),.int .i64 (bB L).bg,S (bB L).str,(.slice at' (aP aN L).aF.length jT),(.slice ah (aP aN L).holds.length ch)] (by rfl) ?_
    intro w6 GY mP;have z4:w6.cell? ⟨w1.heap.size,4,none⟩=some _:=(cell_of_row _ _ 4 _ _ _ mP).trans rfl;have z5:w6.cell? ⟨w1.heap.size,5,none⟩=some _:=(cell_of_row _ _ 5 _ _ _ mP).trans rfl;have z6:w6.cell? ⟨w1.heap.size,6,none⟩=some _:=(cell_of_row _ _ 6 _ _ _ mP).trans rfl))
 have M6:=Qh (((M3.O.own Jv Es).own hg5 Es).own GY Es);have lC:=Qh (Xn J1 (bB L) (.slice ak (bB L).aJ.length ck) x8 ((L.length:Int)+1) w6 M6.O.at_.ok);rw[CP.O]at lC;clear z4 z5 z6 Jv hg5 GY jK Ai oN M3;refine lC.O.mono ?_;rintro e7 w7 ⟨vk2,J2,rfl,ji,jL,eY,xh⟩;obtain⟨kY,ck2,rfl,_,_,_⟩:=id xh;have M7:=Qh (M6.O.aR ji jL eY);have vK:=(Qg mP);have gN:=(ji.block _ vK).trans mP;have CQ:J2 w1.heap.size=none:=(jL _ vK).trans yw;have zB:=jL.keep M6.O.at_.ok (Qn _);have uZ:∀g,some w1.heap.size=some g→J2 g=none∧w.heap.size<g∧w.heap.size+1<g:=fun g e=>by injection e with e;subst e;exact⟨CQ,by omega,by omega⟩
 have rY:=Ah.mono zB;have CR:=Be.mono zB;clear ji jL eY mP M6 lC x8
 go_wp2_with (refine fO rfl rfl 43 _ _ rfl w1.heap.size 4 [.slice kY (bB L).aJ.length ck2,.int .i64 ((L.length:Int)+1),S []] (fD ⟨(bB L).aJ,(L.length:Int)+1,[]⟩ (.slice kY (bB L).aJ.length ck2)) (by simp[Act.eval]) (by simp[Act.eval]) (by rfl) _ 46 gN (by simp) (by kernel_rfl) (by simp[Value.oneCell']) #[.int .i64 ((L.length:Int)+1),.int .i64 aA,S (dD L),.slice none 0 0,(.slice kY (bB L).aJ.length ck2),.int .i64 ((L.length:Int)+1),S [],(.slice at' (aP aN L).aF.length jT),(.slice ah (aP aN L).holds.length ch)] (by rfl) ?_
              intro w8 qO F8;have z8:w8.cell? ⟨w1.heap.size,8,none⟩=some _:=(cell_of_row _ _ 8 _ _ _ F8).trans rfl)
 have M8:=Qh (M7.O.own qO uZ);have GZ:=(Qg F8);have CS:=Qh (Xgx J2 (.slice ah (aP aN L).holds.length ch) (aP aN L).holds CR (by have:=CO.O.ok.hlen;omega) aA w8 M8.O.at_.ok);clear z8 qO gN M7;refine CS.O.mono ?_;rintro e9 w9 ⟨v9,rfl,kV,iO⟩;obtain⟨qP,qQ,rfl⟩:=wT kV;have M9:=Qh (M8.O.quiet iO);have fB:=(iO.block _ GZ).trans F8;have Ov:=Qh kV;have aag:=M8.O.lt;clear iO F8 kV CS
 go_wp2_with (first
  |(refine fO rfl rfl 44 _ _ rfl w1.heap.size 8 [.slice qP (bY (aP aN L).holds aA).length qQ] (.slice qP (bY (aP aN L).holds aA).length qQ) (by simp[Act.eval]) (by simp[Act.eval]) (by rfl) _ 46 fB (by simp) (by kernel_rfl) (by simp[Value.oneCell']) (dA (dK L aA) (.slice none 0 0) (.slice kY (bB L).aJ.length ck2) (.slice at' (aP aN L).aF.length jT) (.slice qP (bY (aP aN L).holds aA).length qQ)).toArray (by rfl) ?_
    intro mf nY tH;obtain⟨y0,y1,y2,y3,y4,y5,y6,y7,y8⟩:=drB_row (d:=dK L aA) tH;have CU:=nY.size;have bR:=(nY.block (w.heap.size+1) (by have:=M9.O.lt;omega) (fun h=>by injection h with h;omega)).trans M9.O.O)
  |(refine fO rfl rfl 46 _ _ rfl (w.heap.size+1) 0 (dA (dK L aA) (.slice none 0 0) (.slice kY (bB L).aJ.length ck2) (.slice at' (aP aN L).aF.length jT) (.slice qP (bY (aP aN L).holds aA).length qQ)) (gP (dK L aA) (.slice none 0 0) (.slice kY (bB L).aJ.length ck2) (.slice at' (aP aN L).aF.length jT) (.slice qP (bY (aP aN L).holds aA).length qQ)) (by simp[Act.eval]) (by simp[Act.eval]) (by rfl) _ 46 bR (by simp) (by kernel_rfl) (by simp[Value.oneCell']) (dA (dK L aA) (.slice none 0 0) (.slice kY (bB L).aJ.length ck2) (.slice at' (aP aN L).aF.length jT) (.slice qP (bY (aP aN L).holds aA).length qQ)).toArray (by rfl) ?_
    intro sM nE wG))
 refine bodyPost_ret (v:= .tuple #[gP (dK L aA) (.slice none 0 0) (.slice kY (bB L).aJ.length ck2) (.slice at' (aP aN L).aF.length jT) (.slice qP (bY (aP aN L).holds aA).length qQ),.int .i64 0]) ?_ rfl ?_
 ·rw[results_cell_tmp rfl];simp[asAddr,run_loadVar_row sM (w.heap.size+1) 46 46 _ (0,0) _ wG Tryz.underlying46 rfl oM.O]
 ·have jS:=(M9.O.own nY uZ).at_.ok.grown nE (fun g e=>by injection e with e;subst e;exact M9.O.rZ);obtain⟨J3,wB,fo,CV,_⟩:=((Ov.O.kept nY (.inr (Ov.O.dm (by omega)))).kept nE (.inr (Ov.O.dm (by omega)))).freeze jS (fun b hb=>M8.O.at_.ok.fresh hb);have sJ:=wB.keep M8.O.at_.ok (Qn _);rw[Hn.O];exact⟨_,_,_,_,J3,rfl,(M9.O.own nY uZ).at_.eU.grown nE (M9.O.own nY uZ).at_.size (fun k e=>by injection e with e;omega),M8.O.ext.trans wB (by omega),fo,⟨aZ.nil _ _,xh.mono sJ,rY.mono sJ,CV⟩⟩
