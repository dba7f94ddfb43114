/- Lemmas for the claim's theorem;conditions: as each says. -/
import Derived.Test.YtmdfjnhfhidmhaaGreatDoorJ20
import Derived.Test.YtmdfjnhfhidmhaaGreatDoorJ23
set_option maxHeartbeats 0
set_option maxRecDepth 100000
set_option linter.all false
namespace Go.Proofs.YtmdfjnhfhidmhaaGreatDoor
open Go.RowKit
variable{w:World}{b:Nat}{d:ig}{ve vk vt vh:Value}
abbrev aoo(n:Nat)(num aG:Int)(bR st p1 p2 p3 p4 sm p6 p7 v6 v10 v15 v21 v26:af)(ao:Option Addr)(le co:Nat)(x:Nat×Nat):List (Option Tmp×Value):=
 [(some 7,.pointer (some ⟨n,0,none⟩)),(some 8,.int .i64 num),(some 9,S p1),(some 10,.pointer (some ⟨n,1,none⟩)),(some 11,.int .i64 aG),(some 12,S p2),(some 13,S v6),(some 14,.pointer (some ⟨n,2,none⟩)),(some 15,S bR),(some 16,S p3),(some 17,S v10),(some 18,.pointer (some ⟨n,4,none⟩)),(some 19,S st),(some 20,.int .i64 (st.length:Int)),(some 21,S p4),(some 22,S v15),(some 23,.pointer (some ⟨n,4,none⟩)),(some 24,S st),(some 25,.slice (some ⟨x.1,0,none⟩) 1 1),(some 26,S sm),(some 27,S p6),(some 28,S v21),(some 29,.pointer (some ⟨n,3,none⟩)),(some 30,.slice ao le co),(some 31,.int .i64 (le:Int)),(some 32,S p7),(some 33,S v26),(some 3,S v26)]
abbrev qH(ai dt sp:Int)(vs:Value):Value:= .agg #[.int .u32 ai,.int .i64 dt,.int .i64 sp,vs]
abbrev gU(d:ig)(ve vk vt vh:Value):Value:= .agg #[.int .i64 d.num,.int .i64 d.aG,S d.bR,ve,vk,.int .i64 d.aU.aV,S d.aU.str,vt,vh]
structure KD (w:World) (n:Nat) (d:ig) (ve vk vt vh:Value):Prop where
 c0:w.cell? ⟨n,0,none⟩=some (.int .i64 d.num)
 c1:w.cell? ⟨n,1,none⟩=some (.int .i64 d.aG)
 c2:w.cell? ⟨n,2,none⟩=some (S d.bR)
 c3:w.cell? ⟨n,3,none⟩=some ve
 c4:w.cell? ⟨n,4,none⟩=some vk
 c5:w.cell? ⟨n,5,none⟩=some (.int .i64 d.aU.aV)
 c6:w.cell? ⟨n,6,none⟩=some (S d.aU.str)
 c7:w.cell? ⟨n,7,none⟩=some vt
 c8:w.cell? ⟨n,8,none⟩=some vh
theorem KD.aQ{w':World}(h:KD w b d ve vk vt vh)(hb:Below w.heap.size w w'):KD w' b d ve vk vt vh:=
 ⟨bK hb h.c0,bK hb h.c1,bK hb h.c2,bK hb h.c3,bK hb h.c4,bK hb h.c5,bK hb h.c6,bK hb h.c7,bK hb h.c8⟩
theorem KD.past(h:KD w b d ve vk vt vh)(x:Obj):KD (w.alloc x) b d ve vk vt vh:=
 ⟨kP x h.c0,kP x h.c1,kP x h.c2,kP x h.c3,kP x h.c4,kP x h.c5,kP x h.c6,kP x h.c7,kP x h.c8⟩
theorem drB_row{t:TypeId}(h:w.heap[b]?=some (.cells #[.int .i64 d.num,.int .i64 d.aG,S d.bR,ve,vk,.int .i64 d.aU.aV,S d.aU.str,vt,vh] t (0,0))):KD w b d ve vk vt vh:=
 ⟨(cell_of_row w b 0 _ _ _ h).trans rfl,(cell_of_row w b 1 _ _ _ h).trans rfl,(cell_of_row w b 2 _ _ _ h).trans rfl,(cell_of_row w b 3 _ _ _ h).trans rfl,(cell_of_row w b 4 _ _ _ h).trans rfl,(cell_of_row w b 5 _ _ _ h).trans rfl,(cell_of_row w b 6 _ _ _ h).trans rfl,(cell_of_row w b 7 _ _ _ h).trans rfl,(cell_of_row w b 8 _ _ _ h).trans rfl⟩
theorem iD.Zx{n m:Nat}{L:List dK}(h:iD n m L)(hn:n≤400)(hm:m≤254):∀x∈L,Fq x:=fun x hx=>by
 obtain⟨k,hk,e⟩:=List.getElem_of_mem hx;have hs:=h.at_ hk e;have hl:=h.len;exact⟨by rw[hs.num];omega,hs.aG,hs.bR,hs.bC,Nat.le_trans (h.aB hx) hn,h.err hx,fun e he=>Xkj (h.err hx e he),hs.aA⟩
theorem Xi0(L:List dK):L=[]∨ ∃k,∃hk:k<L.length,L.length=k+1∧L.getLast?=some L[k]:=by
 rcases Nat.eq_zero_or_pos L.length with h|h
 ·exact .inl (List.eq_nil_of_length_eq_zero h)
 ·refine .inr ⟨L.length-1,by omega,by omega,?_⟩;rw[List.getLast?_eq_getElem?,List.getElem?_eq_getElem (by omega)]
theorem Xml(I:IH)(hI:eG I)(ai dt sp:Int)(L:List dK)(vs:Value)(pY:aZ AJ I vs L)(hL:∀x∈L,Fq x)(w:World)(hw:Ok I w):
 Calls Tryz.prog 61 #[qH ai dt sp vs] w fun e w'=>e= .returned (S (iW L))∧Below w.heap.size w w':=by
 obtain⟨ao,co,rfl,_,_,_⟩:=id pY;rcases Xi0 L with rfl|⟨k,hk,hlen,zS⟩
 ·go_enter Tryz.func61,Tryz.ntmps61
  go_wp2;go_ret;exact⟨rfl,(Qb _ _).alloc (Qn _) _⟩
 ·have Hn:=Qh (show iW L=fA (nE L[k]) by unfold iW;rw[zS]);obtain⟨x,ve,b,off,cap',dA,cZ,TZ,Fs⟩:=YK pY (hw.alloc (.cells #[.int .u32 ai,.int .i64 dt,.int .i64 sp,.slice ao L.length co] 63)) k hk;cases cZ;obtain⟨c0,c1,c2,c3,c4,c5⟩:=TZ;have Hd:=Qh (fun w hw=>Xqr I hI x ve Fs (hL x (by rw[←dA];exact List.getElem_mem hk)) w hw);rw[dA]at Hn;have m1:IntKind.i64.wrap (k:Int)=(k:Int):=IntWalk.i64_in _ (by have:=pY.bF;omega);have z1:(((k+1:Nat):Int)==0)=false:=by simp;omega
  have i1:(k:Int)<((k+1:Nat):Int):=by omega
  rw[Hn.O];rw[hlen]at c0 c1 c2 c3 c4 c5 ⊢;clear pY dA zS hlen Fs Hn;go_enter Tryz.func61,Tryz.ntmps61
  go_wp2_with fail
  refine(Hd.O _ (hw.alloc _)).mono ?_;rintro e w1 ⟨rfl,aD⟩;go_wp2;go_ret;exact⟨rfl,((Qb _ _).alloc (Qn _) _).trans (aD.mono (by simp))⟩
theorem Xmm(I:IH)(ai dt sp:Int)(L:List dK)(vs:Value)(pY:aZ AJ I vs L)(w:World)(hw:Ok I w):
 Calls Tryz.prog 59 #[qH ai dt sp vs] w fun e w'=>e= .returned (.int .i64 (nI L))∧Below w.heap.size w w':=by
 obtain⟨ao,co,rfl,_,_,_⟩:=id pY;rcases Xi0 L with rfl|⟨k,hk,hlen,zS⟩
 ·go_enter Tryz.func59,Tryz.ntmps59
  go_wp2;go_ret;exact⟨rfl,(Qb _ _).alloc (Qn _) _⟩
 ·have Hn:=Qh (show nI L=L[k].aG by unfold nI;rw[zS]);obtain⟨x,ve,b,off,cap',dA,cZ,TZ,Fs⟩:=YK pY (hw.alloc (.cells #[.int .u32 ai,.int .i64 dt,.int .i64 sp,.slice ao L.length co] 63)) k hk;cases cZ;obtain⟨c0,c1,c2,c3,c4,c5⟩:=TZ;rw[dA]at Hn;have m1:IntKind.i64.wrap (k:Int)=(k:Int):=IntWalk.i64_in _ (by have:=pY.bF;omega);have z1:(((k+1:Nat):Int)==0)=false:=by simp;omega
  have i1:(k:Int)<((k+1:Nat):Int):=by omega
  rw[Hn.O];rw[hlen]at c0 c1 c2 c3 c4 c5 ⊢;clear pY dA zS hlen Fs Hn;go_enter Tryz.func59,Tryz.ntmps59
  go_wp2;go_ret;exact⟨rfl,(Qb _ _).alloc (Qn _) _⟩
theorem Xdn:(Tryz.prog.info? 107).map (fun i=>(i.zero,i.size,i.bytes))=some (some (.agg #[.string ⟨#[]⟩,.string ⟨#[]⟩]),2,32):=by kernel_rfl
theorem Xo3(I:IH)(v:Value)(l:List _)(hv:aZ lD I v l)(w:World)(hw:Ok I w)(fO:l.length*32≤140737488355328):
 Calls Tryz.prog 109 #[v] w fun e w'=> ∃v',e= .returned v'∧aK lD 107 I w' w.heap.size v' l∧Below w.heap.size w w':=by
 obtain⟨i0,hi,oV,ow,uD⟩:=info_parts Xdn;have q22:∀(w:World) (a:Option Addr) (n c n' c':Nat),(binOp .eql 23 (.slice a n c) (.slice none n' c')).run Tryz.prog w= .ok (.bool a.isNone) w:=fun w a n c n' c'=>Lib.run_eql_slice_nil w _ _ a n c n' c' Tryz.underlying23;obtain⟨ao,cap,xs,rfl,dO,fJ,hL,hx⟩:=hv.cells hw (by decide);have HL:=Qh hL;have Hx:=Qh hx;clear hL hx hv;cases ao with
 |none=>
  have h0:l.length=0:=by
   rcases Nat.eq_zero_or_pos l.length with h|h
   ·exact h
   ·obtain⟨b,off,arr,e,_⟩:=Hx.O h;cases e
  have:l=[]:=List.eq_nil_of_length_eq_zero h0;subst this;go_enter Tryz.func109,Tryz.ntmps109
  go_wp2;go_ret;exact⟨_,rfl,aK.nil _ _ _ _ _,Qb _ _⟩
 |some a=>
  go_enter Tryz.func109,Tryz.ntmps109
  go_wp2_with (at_builtin;refine wpList_append_own _ rfl _ _ 23 rfl w.heap.size 107 i0 _ 2 32 Tryz.underlying23 hi oV ow uD rfl (by decide) _ _ _ rfl (World.ownsRow_made w #[] 0 (Qn _) (Nat.zero_le _) (by simp)) a l.length cap xs rfl ?qc1 ?qc2 ?qc3 ?qc4 ?qc5 ?qc6 ?_)
  case qc1=>exact HL.O.1
  case qc2=>
   intro j u hj;have hl:0<l.length:=by
    have:=(List.getElem?_eq_some_iff.1 hj).1;rw[HL.O.1]at this;rcases Nat.eq_zero_or_pos l.length with h|h
    ·rw[h]at this;omega
    ·exact h
   obtain⟨b,off,arr,e,_,hb,hc⟩:=Hx.O hl;cases e;rw[Addr.add_lit];rw[World.cell?_alloc_lt _ _ _ hb];exact hc j u hj
  case qc3=>exact HL.O.oneCell
  case qc4=>rw[Nat.zero_add];omega
  case qc5=>rw[Nat.zero_add];exact fO
  case qc6=>simp
  intro v' w1 bg lW _;go_wp2;go_ret;refine⟨v',rfl,⟨xs,(by have hq:=bg;first|exact hq|(simp at hq;exact hq)),HL.O⟩,?_⟩;exact((Qb _ w).alloc (Qn _) _).grown lW (by simp) (by intro k hk;simp[Value.ownBlock]at hk;omega)
theorem Xr6(t:List aT)(p:af):(lg t p).2=(ek t p).isSome:=by
 unfold lg;cases ek t p<;>rfl
theorem Xks(I:IH)(hI:eG I)(d:ig)(ve vk vt vh:Value)(Zy:aZ bQ I vt d.aI)(Zz:aZ jB I vh d.holds)(hk:vL d.holds)(hnh:d.holds.length≤100000)(e:aT)(va vx:Value)(fq:aZ lD I va e.aj)(kJ:aZ lY I vx e.aA)(vZ:1≤e.au)(nV:e.ag.length≤4294967280)(w:World)(hw:Ok I w):
 Calls Tryz.prog 68 #[gU d ve vk vt vh,gN e va vx] w fun r w'=>r= .returned (.int .i64 (sw d.stt e d.aG))∧Below w.heap.size w w':=by
 obtain⟨ye,bx,hg⟩:∃ye bx,lg d.aI e.ag=(ye,bx):=⟨_,_,rfl⟩;have Hg:=Qh (fun w hw=>(by have:=Xvh I vt d.aI Zy e.ag w hw;rwa[hg]at this:Calls Tryz.prog 111 #[vt,S e.ag] w (LQ I w (ye,bx))));have MM:=Qh (fun w hw=>Xo8 I hI vh d.holds Zz hk hnh e va vx fq kJ nV d.aG w hw);obtain⟨at',ct,rfl,_,_,_⟩:=id Zy;obtain⟨ah,ch,rfl,_,_,_⟩:=id Zz;obtain⟨aa,ca,rfl,_,_,_⟩:=id fq;obtain⟨ax,cx,rfl,_,_,_⟩:=id kJ;have DB:=Qh (show KD ((w.alloc (.cells #[.int .i64 d.num,.int .i64 d.aG,S d.bR,ve,vk,.int .i64 d.aU.aV,S d.aU.str,.slice at' d.aI.length ct,.slice ah d.holds.length ch] 43)).alloc (.cells #[.int .i64 e.au,S e.ag,.slice aa e.aj.length ca,S e.target,.int .i64 e.size,S e.av,.slice ax e.aA.length cx] 81)) w.heap.size d ve vk (.slice at' d.aI.length ct) (.slice ah d.holds.length ch)from(drB_row (heap_alloc_new _ _)).past _);have EB:=Qh (show bB ((w.alloc (.cells #[.int .i64 d.num,.int .i64 d.aG,S d.bR,ve,vk,.int .i64 d.aU.aV,S d.aU.str,.slice at' d.aI.length ct,.slice ah d.holds.length ch] 43)).alloc (.cells #[.int .i64 e.au,S e.ag,.slice aa e.aj.length ca,S e.target,.int .i64 e.size,S e.av,.slice ax e.aA.length cx] 81)) (w.heap.size+1) e (.slice aa e.aj.length ca) (.slice ax e.aA.length cx)from dx (by simp) (Qb _ _));have aL:Below w.heap.size w ((w.alloc (.cells #[.int .i64 d.num,.int .i64 d.aG,S d.bR,ve,vk,.int .i64 d.aU.aV,S d.aU.str,.slice at' d.aI.length ct,.slice ah d.holds.length ch] 43)).alloc (.cells #[.int .i64 e.au,S e.ag,.slice aa e.aj.length ca,S e.target,.int .i64 e.size,S e.av,.slice ax e.aA.length cx] 81)):=((Qb w.heap.size w).alloc (Qn _) _).alloc (by simp) _;have sK:sw d.stt e d.aG=if 3<e.au∨bx=true then jP d.holds e.au e.ag d.aG else 0:=by
  unfold sw;have h2:=Xr6 d.aI e.ag;rw[hg]at h2;rw[show bx=(ek d.aI e.ag).isSome from h2];rfl
 clear Zy Zz fq kJ hg;have k1:decide ((1:Int)≤e.au)=true:=Qt vZ;cases bx;case true=>
  have Hn:=Qh (show sw d.stt e d.aG=jP d.holds e.au e.ag d.aG by rw[sK,if_pos (.inr rfl)]);clear sK vZ;go_enter Tryz.func68,Tryz.ntmps68
  go_wp2_with fail
  refine(Hg.O _ ((hw.alloc _).alloc _)).mono ?_;rintro r1 w1 ⟨va1,vx1,rfl,gy,kD,aD⟩;obtain⟨aq,cq,rfl,_,_,_⟩:=id gy;obtain⟨Cu,Cv,rfl,_,_,_⟩:=id kD;have aM:Ok I (w1.alloc (.cells #[.int .i64 ye.au,S ye.ag,.slice aq ye.aj.length cq,S ye.target,.int .i64 ye.size,S ye.av,.slice Cu ye.aA.length Cv] 81)):=(((hw.alloc _).alloc _).below (Qn _) aD).alloc _;have RJ:=(DB.O.aQ aD).past (.cells #[.int .i64 ye.au,S ye.ag,.slice aq ye.aj.length cq,S ye.target,.int .i64 ye.size,S ye.av,.slice Cu ye.aA.length Cv] 81);have Gv:=(EB.O.aQ aD).past (.cells #[.int .i64 ye.au,S ye.ag,.slice aq ye.aj.length cq,S ye.target,.int .i64 ye.size,S ye.av,.slice Cu ye.aA.length Cv] 81);have aH:=(aL.trans (aD.mono aL.size)).alloc (by have:=(aL.trans (aD.mono aL.size)).size;omega) (.cells #[.int .i64 ye.au,S ye.ag,.slice aq ye.aj.length cq,S ye.target,.int .i64 ye.size,S ye.av,.slice Cu ye.aA.length Cv] 81);obtain⟨d0,d1,d2,d3,d4,d5,d6⟩:=Gv;obtain⟨c0,c1,c2,c3,c4,c5,c6,c7,c8⟩:=RJ;clear aD aL gy kD Hg;go_wp2_with fail
  refine(MM.O _ aM).mono ?_;rintro r2 w2 ⟨rfl,aL⟩;go_wp2;go_ret;rw[Hn.O];exact⟨rfl,aH.trans (aL.mono aH.size)⟩
 case false=>
  by_cases h3:e.au≤3
  ·have Hn:=Qh (show sw d.stt e d.aG=0 by rw[sK,if_neg (by simp;omega)]);have k3:decide (e.au≤3)=true:=Qt h3;clear sK vZ h3;go_enter Tryz.func68,Tryz.ntmps68
   go_wp2_with fail
   refine(Hg.O _ ((hw.alloc _).alloc _)).mono ?_;rintro r1 w1 ⟨va1,vx1,rfl,gy,kD,aD⟩;obtain⟨aq,cq,rfl,_,_,_⟩:=id gy;obtain⟨Cu,Cv,rfl,_,_,_⟩:=id kD;have aM:Ok I (w1.alloc (.cells #[.int .i64 ye.au,S ye.ag,.slice aq ye.aj.length cq,S ye.target,.int .i64 ye.size,S ye.av,.slice Cu ye.aA.length Cv] 81)):=(((hw.alloc _).alloc _).below (Qn _) aD).alloc _;have RJ:=(DB.O.aQ aD).past (.cells #[.int .i64 ye.au,S ye.ag,.slice aq ye.aj.length cq,S ye.target,.int .i64 ye.size,S ye.av,.slice Cu ye.aA.length Cv] 81);have Gv:=(EB.O.aQ aD).past (.cells #[.int .i64 ye.au,S ye.ag,.slice aq ye.aj.length cq,S ye.target,.int .i64 ye.size,S ye.av,.slice Cu ye.aA.length Cv] 81);have aH:=(aL.trans (aD.mono aL.size)).alloc (by have:=(aL.trans (aD.mono aL.size)).size;omega) (.cells #[.int .i64 ye.au,S ye.ag,.slice aq ye.aj.length cq,S ye.target,.int .i64 ye.size,S ye.av,.slice Cu ye.aA.length Cv] 81);obtain⟨d0,d1,d2,d3,d4,d5,d6⟩:=Gv;obtain⟨c0,c1,c2,c3,c4,c5,c6,c7,c8⟩:=RJ;clear aD aL gy kD Hg;go_wp2;go_ret;rw[Hn.O];exact⟨rfl,aH⟩
  ·have Hn:=Qh (show sw d.stt e d.aG=jP d.holds e.au e.ag d.aG by rw[sK,if_pos (.inl (by omega))]);have k3:decide (e.au≤3)=false:=Qf h3;clear sK vZ h3;go_enter Tryz.func68,Tryz.ntmps68
   go_wp2_with fail
   refine(Hg.O _ ((hw.alloc _).alloc _)).mono ?_;rintro r1 w1 ⟨va1,vx1,rfl,gy,kD,aD⟩;obtain⟨aq,cq,rfl,_,_,_⟩:=id gy;obtain⟨Cu,Cv,rfl,_,_,_⟩:=id kD;have aM:Ok I (w1.alloc (.cells #[.int .i64 ye.au,S ye.ag,.slice aq ye.aj.length cq,S ye.target,.int .i64 ye.size,S ye.av,.slice Cu ye.aA.length Cv] 81)):=(((hw.alloc _).alloc _).below (Qn _) aD).alloc _;have RJ:=(DB.O.aQ aD).past (.cells #[.int .i64 ye.au,S ye.ag,.slice aq ye.aj.length cq,S ye.target,.int .i64 ye.size,S ye.av,.slice Cu ye.aA.length Cv] 81);have Gv:=(EB.O.aQ aD).past (.cells #[.int .i64 ye.au,S ye.ag,.slice aq ye.aj.length cq,S ye.target,.int .i64 ye.size,S ye.av,.slice Cu ye.aA.length Cv] 81);have aH:=(aL.trans (aD.mono aL.size)).alloc (by have:=(aL.trans (aD.mono aL.size)).size;omega) (.cells #[.int .i64 ye.au,S ye.ag,.slice aq ye.aj.length cq,S ye.target,.int .i64 ye.size,S ye.av,.slice Cu ye.aA.length Cv] 81);obtain⟨d0,d1,d2,d3,d4,d5,d6⟩:=Gv;obtain⟨c0,c1,c2,c3,c4,c5,c6,c7,c8⟩:=RJ;clear aD aL gy kD Hg;go_wp2_with fail
   refine(MM.O _ aM).mono ?_;rintro r2 w2 ⟨rfl,aL⟩;go_wp2;go_ret;rw[Hn.O];exact⟨rfl,aH.trans (aL.mono aH.size)⟩
