/- Lemmas for the claim's theorem;conditions: as each says. -/
import Derived.Test.YtmdfjnhfhidmhaaGreatDoorJ19
set_option maxHeartbeats 0
set_option maxRecDepth 100000
set_option linter.all false
namespace Go.Proofs.YtmdfjnhfhidmhaaGreatDoor
open Go.RowKit Go.Shelf
variable{b:Nat}{w:World}{t:TypeId}{Bx B:Nat}{D:DataW Unit}{s:dK}
attribute [local go_sem] Oper.semAt_some
theorem Xuw(s:af)(hs:s.length≤4294967280)(w:World):
 Calls Tryz.prog 239 #[S s] w fun e w'=>e= .returned (.int .i64 (gW s:Nat))∧Below w.heap.size w w':=by
 obtain⟨N,hN⟩:∃N,gW s=N:=⟨_,rfl⟩;have HN:=Qh (show fZ (s.drop 0) 0 0=N from hN);rw[hN];clear hN;go_enter Tryz.func239,Tryz.ntmps239
 go_wp2_with fail
 go_loopw [3,8] (fun s3 s8 wr=> ∃k h:Nat,k≤s.length∧h<65536∧s8= .int .i64 k∧s3= .int .i64 h∧fZ (s.drop k) k h=N∧Below w.heap.size w wr) (fun _ i _=>s.length-(intOf i).toNat)
 case atStart=>exact⟨0,0,Nat.zero_le _,by decide,rfl,rfl,HN.O,Qb _ _⟩
 case round=>
  clear HN;obtain⟨k,h,hk,hh,rfl,rfl,hr,hb⟩:=hrel;have Hr:=Qh hr;clear hr;by_cases hlt:k<s.length
  ·have hx:=gm (P:=Tryz.prog) Tryz.underlying9 s (k:Int) k rfl hlt;have bu:=Qh (Xhy hlt Hr.O);have DU:(s.getD k 0).toNat<256:=(s.getD k 0).toNat_lt;have dC:=Xvj h (s.getD k 0);have JG:=Xsw h (s.getD k 0);generalize hH:Ez h (s.getD k 0)=H at bu dC JG;generalize(s.getD k 0).toNat=c at hx DU JG;have m1:IntKind.i64.wrap (2*(h:Int))=2*(h:Int):=IntWalk.i64_in _ (by omega);have m2:IntKind.i64.wrap ((c:Int)+1)=(c:Int)+1:=IntWalk.i64_in _ (by omega);have m3:IntKind.i64.wrap (40503*((c:Int)+1))=40503*((c:Int)+1):=IntWalk.i64_in _ (by omega);have m4:IntKind.i64.wrap (2*(h:Int)+40503*((c:Int)+1))=2*(h:Int)+40503*((c:Int)+1):=IntWalk.i64_in _ (by omega);have m5:IntKind.i64.wrap ((k:Int)+1)=(k:Int)+1:=IntWalk.i64_in _ (by omega);clear hH Hr;by_cases ES:k+1=96
   ·have Hn:=Qh (show k+1=N by have:=bu.O;rwa[if_pos (.inl ES)]at this);have d1:((k:Int)+1==96)=true:=by simpa using(show(k:Int)+1=96 by omega)
    clear bu ES;go_wp2;go_ret;exact⟨di (by rw[←Hn.O];go_num),hb⟩
   have d1:((k:Int)+1==96)=false:=by simpa using(show(k:Int)+1≠96 by omega)
   by_cases F7:16≤k+1
   ·have d2:decide ((16:Int)≤(k:Int)+1)=true:=Qt (by omega);by_cases Wn:H<2048
    ·have Hn:=Qh (show k+1=N by have:=bu.O;rwa[if_pos (.inr ⟨F7,Wn⟩)]at this);have d3:decide ((H:Int)<2048)=true:=Qt (by omega);clear bu ES F7;go_wp2;go_ret;exact⟨di (by rw[←Hn.O];go_num),hb⟩
    ·have Hn:=Qh (show fZ (s.drop (k+1)) (k+1) H=N by have:=bu.O;rwa[if_neg (by omega)]at this);have d3:decide ((H:Int)<2048)=false:=Qf (by omega);clear bu ES F7;go_wp2;go_roundw;case rel=>exact⟨k+1,H,by omega,dC,by go_num,by rw[JG],Hn.O,hb⟩
     case measure=>simp[intOf];omega
   ·have d2:decide ((16:Int)≤(k:Int)+1)=false:=Qf (by omega);have Hn:=Qh (show fZ (s.drop (k+1)) (k+1) H=N by have:=bu.O;rwa[if_neg (by omega)]at this);clear bu ES F7;go_wp2;go_roundw;case rel=>exact⟨k+1,H,by omega,dC,by go_num,by rw[JG],Hn.O,hb⟩
    case measure=>simp[intOf];omega
  ·have Hn:=Qh (show s.length=N by have:=Hr.O;rw[List.drop_of_length_le (by omega),fZ]at this;omega);go_wp2;go_ret;exact⟨di (by rw[←Hn.O]),hb⟩
def AQ(b:Nat)(w:World):Nat:=match w.cell? ⟨b,0,none⟩with|some (.string s)=>s.size|_=>0
theorem Xl7{s:af}(h:w.heap[b]?=some (.cells #[S s] t (0,0))):AQ b w=s.length:=by
 unfold AQ;rw[cell_of_row w b 0 _ _ _ h];simp[ByteArray.size]
theorem Y4{w':World}(hb:Below w.heap.size w w'):w.grownBy w' none:=⟨hb.os,hb.tape,hb.output,hb.size,fun k hk _=>hb.block k hk⟩
theorem Xp5(n:Nat)(hn:1≤n)(s:af)(hs:s.length≤4294967280)(Bx:Nat)(w:World)(hB:w.heap[Bx]?=some (.cells #[S s] 9 (0,0))):
 Ky Fence.wide n Tryz.prog 238 #[.pointer (some ⟨Bx,0,none⟩)] (fun x:af=> #[S x]) Bx (fun W W'=>W'.heap[Bx]?=W.heap[Bx]?) (fun xs=>xs=bT s) s.length w:=by
 intro l J W hW hJ hJw hY h0;have TU:W.heap[Bx]?=some (.cells #[S s] 9 (0,0)):=(hW.block _ (Qg hB)).trans hB;have HJ:=Qh hJ;have HJw:=Qh hJw;have HY:=Qh hY;have H0:=Qh h0;have HB:=Qh TU;clear hJ hJw hY h0 hW hB TU;have dC:=Uq s;obtain⟨N,hN⟩:∃N,bT s=N:=⟨_,rfl⟩;have HN:=Qh (show []++bT s=N from hN);rw[hN]at dC ⊢;clear hN;refine callsIn_of_wp Tryz.func238 rfl trivial ?_ rfl;simp only[Tryz.ntmps238,List.size_toArray,List.length_cons,List.length_nil,Nat.reduceAdd,Nat.reduceSub,Array.replicate_succ,Array.replicate_zero,List.push_toArray,List.append_toArray,List.nil_append,List.cons_append];gi_wp2
 gi_loopw [3] (fun _ wr=> ∃(r:af) (pre:List af),wr.heap[Bx]?=some (.cells #[S r] 9 (0,0))∧r.length≤s.length∧pre++bT r=N∧J pre wr) (fun _ wr=>AQ Bx wr)
 case atStart=>exact⟨s,[],HB.O,Qn _,HN.O,H0.O⟩
 case round=>
  clear HB HN H0;obtain⟨r,pre,jw,GY,zO,hj⟩:=hrel;have vD:=Qh zO;have Hj:=Qh hj;have sI:=Qh jw;have rW:=Xl7 jw;have c0:wr.cell? ⟨Bx,0,none⟩=some (S r):=(cell_of_row wr _ 0 _ _ _ jw).trans rfl;clear zO hj jw;by_cases h0:r=[]
  ·have Hn:=Qh (show pre=N by have:=vD.O;rw[h0,Xja,List.append_nil]at this;exact this);obtain⟨p1,p2,p3,p4⟩:=BU h0;clear h0;gi_wp2
   go_end0
   exact⟨⟨_,rfl⟩,pre,Hn.O,Hj.O⟩
  ·obtain⟨p1,p2,p3,p4⟩:=Ao h0;have vI:=List.length_pos_iff.2 h0;have hp:=P9 h0;have hf:=WO r;have Hf:=Qh (Xuw r (by omega) wr);have Hn:=Qh (show(pre++[r.take (gW r)])++bT (r.drop (gW r))=N by rw[←vD.O,WQ h0];simp);have nV:pre.length<s.length:=by
    have:=congrArg List.length Hn.O;simp only[List.length_append,List.length_cons,List.length_nil]at this;omega
   generalize gW r=m at Hf Hn hp hf;have CL:(m:Int)≤(r.length:Int):=by omega
   have abz:(0:Int)≤(m:Int):=by omega
   clear h0 vD;gi_wp2_with fail
   refine⟨trivial,(callsIn_wide.2 Hf.O).mono ?_⟩;rintro e1 w1 ⟨rfl,aD⟩;have OC:=HJ.O _ _ _ none Hj.O (Y4 aD) (fun r h=>by cases h);obtain⟨fn,tmps,assign,body,hy,hR⟩:=HY.O pre (r.take m) w1 OC nV;have c1:=bK aD c0;have Co:=Qh ((aD.block _ (Qg sI.O)).trans sI.O);clear Hf aD OC Hj sI c0;gi_wp2
   refine hR.mono ?_;rintro e W3 ⟨rfl,DW,uH⟩;have Y5:=Qh DW;have Cq:=uH.trans Co.O;have Cr:=Qh Cq;have c3:W3.cell? ⟨Bx,0,none⟩=some (S r):=(cell_of_row W3 _ 0 _ _ _ Cq).trans rfl;have f3:W3.frozen? ⟨Bx,0,none⟩=false:=frozen_of_row W3 _ 0 _ _ Cq;clear DW uH Cq hy c1;have htd:List.take (r.length-m) (List.drop m r)=r.drop m:=List.take_of_length_le (by rw[List.length_drop];omega);gi_wp2
   go_roundw;case rel=>exact⟨r.drop m,_,heap_setCell_same W3 Bx 0 _ _ (S (r.drop m)) Cr.O,by simp;omega,Hn.O,HJw.O _ _ _ Y5.O⟩
   case measure=>rw[Xl7 (heap_setCell_same W3 Bx 0 _ _ (S (r.drop m)) Cr.O),rW,List.length_drop];omega
theorem Xsv(s:af)(w:World):Calls Tryz.prog 199 #[S s] w fun e w'=>e= .returned (.func (.func 238) #[] #[.pointer (some ⟨w.heap.size,0,none⟩)])∧w'=w.alloc (.cells #[S s] 9):=by
 go_enter Tryz.func199,Tryz.ntmps199
 go_wp2;go_ret;exact⟨rfl,rfl⟩
def Fp(Bx b:Nat)(w:World)(pre:List af)(W:World):Prop:=
 ∃v,W.heap[b]?=some (.cells #[v] 126 (0,0))∧aK iE 9 (fun _=>none) W (b+1) v pre∧Below Bx w W
theorem Xu9(hw:Bx≤w.heap.size)(hB:Bx≤B):OwnFrom B (Fp Bx b w):=by
 intro pre W W' row ⟨v,h1,h2,h3⟩ hg hr;exact⟨v,Xnx h1 hg fun r e=>(hr r e).2,h2.turn hg fun r e=>(hr r e).2,Below.turn h3 hw hB hg hr⟩
theorem Xu8(bn:Bx<b)(pre:List af)(W:World)(u:Value)(h:Fp Bx b w pre W):Fp Bx b w pre (W.setCell ⟨Bx,0,none⟩ u):=by
 obtain⟨v,h1,h2,h3⟩:=h;refine⟨v,(heap_setCell_other W ⟨Bx,0,none⟩ b u (by show b≠Bx;omega)).trans h1,h2.stored (fun e=> ?_) 0 u,h3.setCell (p:=⟨Bx,0,none⟩) (Qn _) u⟩;have:=(tL h2 e).1;omega
theorem Xim(n:Nat)(hn:2≤n)(s:af)(hs:s.length≤4294967280)(Bx:Nat)(w:World)(hB:w.heap[Bx]?=some (.cells #[S s] 9 (0,0))):
 CallsIn Fence.wide n Tryz.prog 237 #[.slice none 0 0,.func (.func 238) #[] #[.pointer (some ⟨Bx,0,none⟩)]] w fun e w'=> ∃v,e= .returned v∧aK iE 9 (fun _=>none) w' w.heap.size v (bT s)∧Below Bx w w':=by
 have hlB:Bx<w.heap.size:=(Qg hB);have dC:=Uq s;refine callsIn_of_wp_marks Tryz.func237 rfl trivial ?_ rfl;simp only[Tryz.ntmps237,List.size_toArray,List.length_cons,List.length_nil,Nat.reduceAdd,Nat.reduceSub,Array.replicate_succ,Array.replicate_zero,List.push_toArray,List.append_toArray,List.nil_append,List.cons_append];gi_wp2
 have Bw:(w.alloc (.cells #[.slice none 0 0] 126)).heap[Bx]?=some (.cells #[S s] 9 (0,0)):=(Below.heap_alloc _ _ _ hlB).trans hB;have Wt:Fp Bx w.heap.size w [] (w.alloc (.cells #[.slice none 0 0] 126)):=⟨_,heap_alloc_new w _,aK.nil _ _ _ _ _,(Qb _ _).alloc (by omega) _⟩;have dM:(w.alloc (.cells #[.slice none 0 0] 126)).heap.size=w.heap.size+1:=by simp
 obtain⟨W0,Wu⟩:∃W0,w.alloc (.cells #[.slice none 0 0] 126)=W0:=⟨_,rfl⟩;rw[Wu]at Bw Wt dM ⊢;clear Wu
 refine Xqc rfl (by omega) (gf:=238) (lb:=#[.pointer (some ⟨Bx,0,none⟩)]) rfl trivial (enters_of Tryz.func238 (by kernel_rfl) rfl)
  (Xp5 (n-1) (by omega) s hs Bx W0 Bw) (by omega) (fun h k=>k.trans h) (fun W l o' hl=>World.putObj_heap_other (by omega)) (fun _=>rfl)
  (Fp Bx w.heap.size w) (Xu9 (by omega) (by omega)) (fun pre W u h=>Xu8 hlB pre W u h) Wt
  (fun x=> {tmps:=#[.slice none 0 0,.func (.func 238) #[] #[.pointer (some ⟨Bx,0,none⟩)],.pointer (some ⟨w.heap.size,0,none⟩),undef,.slice none 0 0,S x,.func (.func 238) #[] #[.pointer (some ⟨Bx,0,none⟩)],S x,undef,undef,undef,undef,undef],defers:=[]})
  ?assign ?body ?done
 case assign=>
  intro l x W K hK;gi_wp2
  exact hK
 case body=>
  intro l pre x W ⟨v,h1,h2,h3⟩ nV;have c0:W.cell? ⟨w.heap.size,0,none⟩=some v:=(cell_of_row W _ 0 _ _ _ h1).trans rfl;have f0:=frozen_of_row W _ 0 _ _ h1;have bn:v.ownBlock≠some w.heap.size:=fun e=>by have:=(tL h2 e).1;omega
  have hlt:w.heap.size<W.heap.size:=(Qg h1);obtain⟨a0,n0,k0,rfl⟩:=Fh h2;have H1:=Qh h1;have H2:=Qh h2;have H3:=Qh h3;clear h1 h2 h3;gi_wp2_with (gi_at_builtin;go_loud (refine Ru (w0:=W) Ql rfl _ _ rfl (w.heap.size+1) _ pre rfl H2.O x [S x] _ (by first|rfl|simp[Act.eval]) rfl (by omega) (by omega) (by omega) ?_))
  intro v7 w7 Ac gL Vn;obtain⟨g7,n7,k7,rfl⟩:=Yd Ac;have co7:=jo gL bn c0;have fo7:=Gr gL bn c0 f0;gi_wp2
  have e1:w7.heap[w.heap.size]?=some (.cells #[.slice a0 n0 k0] 126 (0,0)):=(gL.block _ hlt (fun e=>bn e.symm)).trans H1.O;refine⟨(KeepsFrom.own H2.O gL).trans (KeepsFrom.zl w7 ⟨w.heap.size,0,none⟩ _),?_,_,heap_setCell_same w7 w.heap.size 0 _ _ _ e1,Ac.stored (fun e=>by have:=(tL Ac e).1;omega) 0 _,(H3.O.grown gL (by omega) (fun k hk=>by have:=(tL H2.O hk).1;omega)).setCell (p:=⟨w.heap.size,0,none⟩) (by show Bx≤w.heap.size;omega) _⟩;exact(heap_setCell_other w7 ⟨w.heap.size,0,none⟩ Bx _ (by show Bx≠w.heap.size;omega)).trans (gL.block _ (by omega) (fun e=>by have:=(tL H2.O e.symm).1;omega))
 case done=>
  rintro D xs W hD rfl ⟨v,h1,h2,h3⟩ hK;have c0:W.cell? ⟨w.heap.size,0,none⟩=some v:=(cell_of_row W _ 0 _ _ _ h1).trans rfl;gi_wp2
  refine⟨by simp,.inl ⟨_,_,rfl,run_takeDeferred hK,?_⟩⟩;exact⟨_,results_tmp rfl _ _ _,v,rfl,(h2.turn (grownBy_putObj' _ D _) (fun r e=>by cases e;exact⟨_,hK,rfl⟩)).lower (by omega),Below.turn h3 (by omega) (Qn _) (grownBy_putObj' _ D _) (fun r e=>by cases e;exact⟨by omega,_,hK,rfl⟩)⟩
theorem Xld(n:Nat)(hn:3≤n)(s:af)(hs:s.length≤4294967280)(Bx:Nat)(w:World)(hB:w.heap[Bx]?=some (.cells #[S s] 9 (0,0))):
 CallsIn Fence.wide n Tryz.prog 198 #[.func (.func 238) #[] #[.pointer (some ⟨Bx,0,none⟩)]] w fun e w'=> ∃v,e= .returned v∧aK iE 9 (fun _=>none) w' w.heap.size v (bT s)∧Below Bx w w':=by
 have Ha:=Qh (Xim (n-1) (by omega) s hs Bx w hB);refine callsIn_of_wp Tryz.func198 rfl trivial ?_ rfl;simp only[Tryz.ntmps198,List.size_toArray,List.length_cons,List.length_nil,Nat.reduceAdd,Nat.reduceSub,Array.replicate_succ,Array.replicate_zero,List.push_toArray,List.append_toArray,List.nil_append,List.cons_append];gi_wp2_with fail
 refine⟨trivial,fun _=>by omega,Ha.O.mono ?_⟩;rintro e w1 ⟨v,rfl,h1,h2⟩;gi_wp2
 go_ret;exact⟨v,rfl,h1,h2⟩
theorem Xuv(I:IH)(s:af)(hs:s.length≤4294967280)(w:World):
 Calls Tryz.prog 151 #[S s] w fun e w'=> ∃v',e= .returned v'∧aK iE 9 I w' w.heap.size v' (bT s)∧Below w.heap.size w w':=by
 have Hc:=Qh (fun w=>Xsv s w);have Hs:=Qh (callsIn_wide.1 (Xld 3 (Qn _) s hs w.heap.size (w.alloc (.cells #[S s] 9)) (heap_alloc_new w _)));go_enter Tryz.func151,Tryz.ntmps151
 go_wp2_with fail
 refine(Hc.O _).mono ?_;rintro e w1 ⟨rfl,rfl⟩;go_wp2_with fail
 refine Hs.O.mono ?_;rintro e w2 ⟨v,rfl,⟨xs,h1,h2⟩,h3⟩;go_wp2;go_ret;exact⟨v,rfl,aK.lower ⟨xs,h1,h2.1,fun i hi=>by obtain⟨cs,q1,q2⟩:=h2.2 i hi;exact⟨cs,q1,q2⟩⟩ (by simp),((Qb w.heap.size w).alloc (Qn _) _).trans h3⟩
attribute [local go_sem] Oper.semAt_some
theorem Xtn(s:af)(hs:s.length≤4294967280)(w:World):
 Calls Tryz.prog 236 #[S s] w fun e w'=>e= .returned (.int .i64 (dw s:Nat))∧Below w.heap.size w w':=by
 obtain⟨N,hN⟩:∃N,dw s=N:=⟨_,rfl⟩;have HN:=Qh (show 0+dw (s.drop 0)=N by rw[Nat.zero_add];exact hN);rw[hN];clear hN;go_enter Tryz.func236,Tryz.ntmps236
 go_wp2_with fail
 go_loopw [3] (fun s3 wr=> ∃n:Nat,n≤s.length∧s3= .int .i64 n∧n+dw (s.drop n)=N∧Below w.heap.size w wr) (fun n _=>s.length-(intOf n).toNat)
 case atStart=>exact⟨0,by omega,rfl,HN.O,Qb _ _⟩
 case round=>
  clear HN;obtain⟨n,hn,rfl,hr,hb⟩:=hrel;have Hr:=Qh hr;clear hr;by_cases hlt:n<s.length
  ·have hx:=gm (P:=Tryz.prog) Tryz.underlying9 s (n:Int) n rfl hlt;have d1:decide ((n:Int)<(s.length:Int))=true:=Qt (by omega);have jk:n+(if s.getD n 0=0 then dw (s.drop (n+1))+1 else 0)=N:=by
    rw[←Hr.O,List.drop_eq_getElem_cons hlt,dw];simp[List.getD,hlt]
   have he:=Ux (s.getD n 0) 0 (by decide);have Og:((((s.getD n 0).toNat:Nat):Int)==0)=(s.getD n 0==0):=he;have bu:=Qh jk;clear jk he;generalize s.getD n 0=ch at hx bu Og;cases hc:(ch==0)
   ·rw[hc]at Og;have Hn:=Qh (show n=N by have:=bu.O;rwa[if_neg (by simpa using hc),Nat.add_zero]at this);clear hc bu Hr;go_wp2;go_ret;exact⟨di (by rw[←Hn.O]),hb⟩
   ·rw[hc]at Og;have Hn:=Qh (show n+1+dw (s.drop (n+1))=N by
     have:=bu.O;rw[if_pos (by simpa using hc)]at this;omega)
    clear hc bu Hr;go_wp2;go_roundw;case rel=>exact⟨n+1,by omega,by go_num,Hn.O,hb⟩
    case measure=>simp[intOf];omega
  ·have d1:decide ((n:Int)<(s.length:Int))=false:=Qf (by omega);have Hn:=Qh (show n=N by have:=Hr.O;rwa[List.drop_of_length_le (by omega),dw,Nat.add_zero]at this);clear Hr;go_wp2;go_ret;exact⟨di (by rw[←Hn.O]),hb⟩
structure Rn where
 d:af
 n:Nat
def Rn.enc(x:Rn):Array Value:=#[S x.d,.int .i64 (x.n:Nat)]
def rJ(x:Rn):List Sg:=iJ x.d++if 0<x.n then [⟨(x.n:Nat),[]⟩]else []
def fU(l:List Rn):List Sg:=l.flatMap rJ
theorem Y6(l:List Rn)(x:Rn):fU (l++[x])=fU l++rJ x:=by simp[fU]
theorem Xvf:∀{l:List Rn},(∀x∈l,x.d≠[]∨0<x.n)→l.length≤(fU l).length
 | [],_=>Qn _
 |x::l,h=>by
  have ih:=Xvf (l:=l) fun y hy=>h y (List.mem_cons_of_mem _ hy);have h1:1≤(rJ x).length:=by
   unfold rJ iJ;rcases h x (List.mem_cons_self ..)with h1|h1
   ·rw[if_neg h1];simp
   ·rw[if_pos h1];simp
  show l.length+1≤(rJ x++fU l).length;rw[List.length_append];omega
theorem Xto(n:Nat)(hn:1≤n)(s:af)(hs:s.length≤4294967280)(Bx:Nat)(w:World)(hB:w.heap[Bx]?=some (.cells #[S s] 9 (0,0))):
 SeqStopsK Fence.wide n Tryz.prog 235 #[.pointer (some ⟨Bx,0,none⟩)] Rn.enc (fun W W'=>W'.heap[Bx]?=W.heap[Bx]?) (fun xs=>fU xs=iK s) (fun _=>True) (s.length+1) w:=by
 intro l J Jx W hW hJ _ hY h0;have TU:W.heap[Bx]?=some (.cells #[S s] 9 (0,0)):=(hW.block _ (Qg hB)).trans hB;have HJ:=Qh hJ;have HY:=Qh hY;have H0:=Qh h0;have HB:=Qh TU;clear hJ hY h0 hW hB TU;have dC:=WT s;obtain⟨N,hN⟩:∃N,iK s=N:=⟨_,rfl⟩;have HN:=Qh (show fU []++mh ((s.drop 0).take (0-0)) (s.drop 0)=N from hN);rw[hN]at dC ⊢;clear hN;refine callsIn_of_wp Tryz.func235 rfl trivial ?_ rfl;simp only[Tryz.ntmps235,List.size_toArray,List.length_cons,List.length_nil,Nat.reduceAdd,Nat.reduceSub,Array.replicate_succ,Array.replicate_zero,List.push_toArray,List.append_toArray,List.nil_append,List.cons_append];gi_wp2
 gi_loopw [3,4] (fun s3 s4 wr=> ∃(f i:Nat) (pre:List Rn),f≤i∧i≤s.length∧s3= .int .i64 f∧s4= .int .i64 i∧wr.heap[Bx]?=some (.cells #[S s] 9 (0,0))∧fU pre++mh ((s.drop f).take (i-f)) (s.drop i)=N∧(∀x∈pre,x.d≠[]∨0<x.n)∧J pre wr) (fun _ i _=>s.length-(intOf i).toNat)
 case atStart=>exact⟨0,0,[],Qn _,Nat.zero_le _,rfl,rfl,HB.O,HN.O,fun _ h=>(by cases h),H0.O⟩
 case round=>
  clear HB HN H0;obtain⟨f,i,pre,hfi,his,rfl,rfl,jw,zO,bn,hj⟩:=hrel;have vD:=Qh zO;have Hj:=Qh hj;have sI:=Qh jw;have Pf:=Qh bn;have c0:wr.cell? ⟨Bx,0,none⟩=some (S s):=(cell_of_row wr _ 0 _ _ _ jw).trans rfl;have nV:pre.length≤s.length:=by
   have h1:=Xvf bn;have h2:=congrArg List.length zO;rw[List.length_append]at h2;omega
  clear zO hj jw bn;have hfs:(f:Int)≤(s.length:Int):=by omega
  have anA:(i:Int)≤(s.length:Int):=by omega
  have anB:(f:Int)≤(i:Int):=by omega
  have hf0:(0:Int)≤(f:Int):=by omega
  have hi0:(0:Int)≤(i:Int):=by omega
  by_cases hlt:i<s.length
  ·have d0:decide ((i:Int)<(s.length:Int))=true:=Qt (by omega);have Oh:s.drop i≠[]:=fun e=>by have:=congrArg List.length e;rw[List.length_drop]at this;simp at this;omega
   have hz:=Ur (s.drop i);rw[List.length_drop]at hz;have Hz:=Qh (Xtn (s.drop i) (by rw[List.length_drop];omega) wr);have bu:=Qh (And.intro (fun h=>Xnu (acc:=(s.drop f).take (i-f)) Oh h) (fun h=>Xnv (acc:=(s.drop f).take (i-f)) Oh h));generalize dw (s.drop i)=z at hz Hz bu;have htd:List.take (s.length-i) (List.drop i s)=List.drop i s:=List.take_of_length_le (by rw[List.length_drop];omega);clear Oh;gi_wp2_with fail
   refine⟨trivial,(callsIn_wide.2 Hz.O).mono ?_⟩;rintro e1 w1 ⟨rfl,aD⟩;have OC:=HJ.O _ _ _ none Hj.O (Y4 aD) (fun r h=>by cases h);have c1:=bK aD c0;have Co:=Qh ((aD.block _ (Qg sI.O)).trans sI.O);clear Hz aD Hj sI c0;by_cases pz:32≤z
   ·have d1:decide ((32:Int)≤(z:Int))=true:=Qt (by omega);have m1:IntKind.i64.wrap ((i:Int)+(z:Int))=(i:Int)+(z:Int):=IntWalk.i64_in _ (by omega);obtain⟨fn,tmps,assign,body,hy,hR⟩:=HY.O pre ⟨(s.drop f).take (i-f),z⟩ w1 OC (by omega);have Hn:=Qh (show fU (pre++[⟨(s.drop f).take (i-f),z⟩])++mh ((s.drop (i+z)).take (i+z-(i+z))) (s.drop (i+z))=N by
     rw[←vD.O,bu.O.1 pz,Y6,rJ,if_pos (by dsimp only;omega)];simp[List.drop_drop])
    have Y7:=Qh (show ∀x∈pre++[(⟨(s.drop f).take (i-f),z⟩:Rn)],x.d≠[]∨0<x.n from fun x hx=>by
     rcases List.mem_append.1 hx with hx|hx
     ·exact Pf.O x hx
     ·rw[List.mem_singleton.1 hx];exact .inr (by dsimp only;omega))
    dsimp only[Rn.enc]at hy;clear bu vD Pf OC;gi_wp2
    refine hR.mono ?_;rintro e W3 (⟨rfl,DW,uH⟩|⟨rfl,OD⟩)
    ·have Y5:=Qh DW;have Cr:=Qh (uH.trans Co.O);clear DW uH hy c1;gi_wp2
     go_roundw;case rel=>exact⟨i+z,i+z,_,Qn _,by omega,by go_num,by go_num,Cr.O,Hn.O,Y7.O,Y5.O⟩
     case measure=>simp[intOf];omega
    ·gi_wp2
     refine bodyPost_ret (results_none rfl _ _ _) rfl ?_;exact⟨⟨_,rfl⟩,.inr ⟨_,trivial,OD⟩⟩
   ·have d1:decide ((32:Int)≤(z:Int))=false:=Qf (by omega);have PQ:max (z:Int) 1=((max z 1:Nat):Int):=by omega
    have hmn:1≤max z 1∧i+max z 1≤s.length:=by omega
    have Hn:=Qh (show fU pre++mh ((s.drop f).take (i+max z 1-f)) (s.drop (i+max z 1))=N by
     rw[←vD.O,bu.O.2 pz,List.drop_drop];congr 2;rw[show i+max z 1-f=(i-f)+max z 1 by omega,List.take_add,List.drop_drop,show f+(i-f)=i by omega])
    generalize max z 1=m at PQ hmn Hn;have m1:IntKind.i64.wrap ((i:Int)+(m:Int))=(i:Int)+(m:Int):=IntWalk.i64_in _ (by omega);have HJ1:=Qh OC;clear bu vD OC;gi_wp2
    go_roundw;case rel=>exact⟨f,i+m,pre,by omega,by omega,rfl,by go_num,Co.O,Hn.O,Pf.O,HJ1.O⟩
    case measure=>simp[intOf];omega
  ·have d0:decide ((i:Int)<(s.length:Int))=false:=Qf (by omega);have TL:i=s.length:=by omega
   have Hn:=Qh (show fU pre++iJ (s.drop f)=N by
    have:=vD.O;rwa[List.drop_of_length_le (show s.length≤i by omega),Xqz,List.take_of_length_le (by rw[List.length_drop];omega)]at this)
   by_cases hf:f<s.length
   ·have d1:decide ((f:Int)<(s.length:Int))=true:=Qt (by omega);obtain⟨fn,tmps,assign,body,hy,hR⟩:=HY.O pre ⟨s.drop f,0⟩ wr Hj.O (by omega);have Hs:=Qh (show fU (pre++[⟨s.drop f,0⟩])=N by rw[Y6,←Hn.O];simp[rJ]);dsimp only[Rn.enc]at hy;rw[show(((0:Nat):Int))=0 from rfl]at hy;have htd:List.take (s.length-f) (List.drop f s)=List.drop f s:=List.take_of_length_le (by rw[List.length_drop];omega);clear vD Hj;gi_wp2
    refine hR.mono ?_;rintro e W3 (⟨rfl,DW,uH⟩|⟨rfl,OD⟩)
    ·gi_wp2
     go_end0
     exact⟨⟨_,rfl⟩,.inl ⟨_,Hs.O,DW⟩⟩
    ·gi_wp2
     go_end0
     exact⟨⟨_,rfl⟩,.inr ⟨_,trivial,OD⟩⟩
   ·have d1:decide ((f:Int)<(s.length:Int))=false:=Qf (by omega);have Hs:=Qh (show fU pre=N by
     have:=Hn.O;rw[List.drop_of_length_le (show s.length≤f by omega)]at this;simpa[iJ]using this)
    clear vD;gi_wp2
    go_end0
    exact⟨⟨_,rfl⟩,.inl ⟨_,Hs.O,Hj.O⟩⟩
theorem Xvp(s:af)(w:World):Calls Tryz.prog 197 #[S s] w fun e w'=>e= .returned (.func (.func 235) #[] #[.pointer (some ⟨w.heap.size,0,none⟩)])∧w'=w.alloc (.cells #[S s] 9):=by
 go_enter Tryz.func197,Tryz.ntmps197
 go_wp2;go_ret;exact⟨rfl,rfl⟩
theorem Xsq(d:af):(iJ d).length≤1:=by unfold iJ;split<;>simp
theorem Xkt:∀l:List Rn,(fU l).length≤2*l.length
 | []=>Qn _
 |x::l=>by
  have ih:=Xkt l;have h1:=Xsq x.d;have h2:(rJ x).length≤2:=by
   unfold rJ;rw[List.length_append];split<;>simp<;>omega
  show(rJ x++fU l).length≤_;rw[List.length_append,List.length_cons];omega
structure Dm (b:Nat) (w:World) (l:List Sg) (v:Value) (W:World):Prop where
 box:W.heap[b]?=some (.cells #[v] 165 (0,0))
 own:aK D9 168 (fun _=>none) W (b+2) v l
 eY:Below b w W
section
variable {b B:Nat} {w W W':World} {l l':List Sg} {v v':Value}
theorem Dm.c0(h:Dm b w l v W):W.cell? ⟨b,0,none⟩=some v:=(cell_of_row W _ 0 _ _ _ h.box).trans rfl
theorem Dm.f0(h:Dm b w l v W):W.frozen? ⟨b,0,none⟩=false:=frozen_of_row W _ 0 _ _ h.box
theorem Dm.ne(h:Dm b w l v W){k:Nat}(hk:k<b+2):v.ownBlock≠some k:=fun e=>by have:=(tL h.own e).1;omega
theorem Dm.turn{row:Option Nat}(h:Dm b w l v W)(hb:b≤w.heap.size)(hB:b≤B)(hg:W.grownBy W' row)(hr:∀r,row=some r→B≤r∧ ∃o:Obj,W.heap[r]?=some o∧o.isCells=false):Dm b w l v W':=
 ⟨Xnx h.box hg fun r e=>(hr r e).2,h.own.turn hg fun r e=>(hr r e).2,Below.turn h.eY hb hB hg hr⟩
theorem Dm.add(h:Dm b w l v W)(hb:b≤w.heap.size)(ho:aK D9 168 (fun _=>none) W' (b+2) v' l')(hg:W.grownBy W' v.ownBlock):
 Dm b w l' v' (W'.setCell ⟨b,0,none⟩ v')∧KeepsFrom B W (W'.setCell ⟨b,0,none⟩ v')∧(b+1<W.heap.size→(W'.setCell ⟨b,0,none⟩ v').heap[b+1]?=W.heap[b+1]?):=by
 have hlt:=(Qg h.box);have hs:=h.eY.size;have e1:W'.heap[b]?=some (.cells #[v] 165 (0,0)):=(hg.block _ hlt (fun e=>h.ne (by omega) e.symm)).trans h.box;refine⟨⟨heap_setCell_same W' b 0 _ _ v' e1,ho.stored (fun e=>by have:=(tL ho e).1;omega) 0 v',(h.eY.grown hg (by omega) (fun k hk=>by have:=(tL h.own hk).1;omega)).setCell (p:=⟨b,0,none⟩) (Qn _) v'⟩,(KeepsFrom.own h.own hg).trans (KeepsFrom.zl W' ⟨b,0,none⟩ v'),fun hl=> ?_⟩;exact(heap_setCell_other W' ⟨b,0,none⟩ (b+1) v' (by show b+1≠b;omega)).trans (hg.block _ hl (fun e=>h.ne (by omega) e.symm))
end
def ME(b:Nat)(w:World)(pre:List Rn)(W:World):Prop:=∃v,Dm b w (fU pre) v W∧b+1<W.heap.size
theorem Xvq(hb:b≤w.heap.size)(hB:b≤B):OwnFrom B (ME b w):=fun pre W W' row ⟨v,h,hl⟩ hg hr=>⟨v,h.turn hb hB hg hr,Nat.lt_of_lt_of_le hl hg.size⟩
theorem Xtp(I:IH)(s:af)(hs:s.length≤4294967280)(w:World):
 Calls Tryz.prog 150 #[S s] w fun e w'=> ∃v',e= .returned v'∧aK D9 168 I w' w.heap.size v' (iK s)∧Below w.heap.size w w':=by
 have H0:=Qh (show ME w.heap.size w [] ((w.alloc (.cells #[.slice none 0 0] 165)).alloc (.cells #[S s] 9))from⟨_,⟨(Below.heap_alloc _ _ _ (by simp)).trans (heap_alloc_new w _),aK.nil _ _ _ _ _,((Qb _ _).alloc (Qn _) _).alloc (by simp) _⟩,by simp⟩);have HB:=Qh (show((w.alloc (.cells #[.slice none 0 0] 165)).alloc (.cells #[S s] 9)).heap[w.heap.size+1]?=some (.cells #[S s] 9 (0,0)) by
  have h:=heap_alloc_new (w.alloc (.cells #[.slice none 0 0] 165)) (.cells #[S s] 9);simpa using h)
 have dM:((w.alloc (.cells #[.slice none 0 0] 165)).alloc (.cells #[S s] 9)).heap.size=w.heap.size+2:=by simp
 refine(callsIn_wide (n:=3)).1 ?_;refine callsIn_of_wp_marks Tryz.func150 rfl trivial ?_ rfl;simp only[Tryz.ntmps150,List.size_toArray,List.length_cons,List.length_nil,Nat.reduceAdd,Nat.reduceSub,Array.replicate_succ,Array.replicate_zero,List.push_toArray,List.append_toArray,List.nil_append,List.cons_append];gi_wp2_with fail
 refine⟨trivial,(callsIn_wide.2 (Xvp s _)).mono ?_⟩;rintro e w1 ⟨rfl,rfl⟩;gi_wp2
 generalize Wu:((w.alloc (.cells #[.slice none 0 0] 165)).alloc (.cells #[S s] 9))=W0 at H0 HB dM ⊢;clear Wu
 refine wpIn_rangeFunc_ownG rfl (by decide) (gf:=235) (lb:=#[.pointer (some ⟨w.heap.size+1,0,none⟩)]) rfl trivial (enters_of Tryz.func235 (by kernel_rfl) rfl)
  (Xto _ (by decide) s hs (w.heap.size+1) W0 HB.O) (fun h k=>k.trans h) (fun W l o o' hl _ _ _=>World.putObj_heap_other (by omega)) (Qb _ _) (fun _=>rfl)
  (ME w.heap.size w) (fun _ _ _=>False) (Xvq (Qn _) (by omega)) (fun _ _ _ _ _ h _ _=>h) H0.O
  (fun x=> {tmps:=#[S s,undef,.slice none 0 0,.pointer (some ⟨w.heap.size,0,none⟩),S x.d,.int .i64 (x.n:Nat),S s,.func (.func 235) #[] #[.pointer (some ⟨w.heap.size+1,0,none⟩)],S x.d,.int .i64 (x.n:Nat),undef,undef,undef,undef,undef,undef,undef,undef,undef,undef,undef,undef,undef,undef,undef],defers:=[]})
  ?assign ?body ?done ?stop
 case assign=>
  intro l x W K hK;obtain⟨d,n⟩:=x;dsimp only[Rn.enc];gi_wp2
  exact hK
 case body=>
  intro l pre x W ⟨v,h,hl⟩ nV;have GQ:=Xkt pre;have hso:=Y6 pre x;have hbs:=h.eY.size;obtain⟨a0,n0,k0,rfl⟩:=Fh h.own;have H:=Qh h;have c0:=h.c0;clear h;obtain⟨d,n⟩:=x;dsimp only at hso ⊢;have Vo:=Qh hso;clear hso;by_cases hd:d=[]
  ·obtain⟨p1,p2,p3,p4⟩:=BU hd;by_cases hn:0<n
   ·have d1:decide ((0:Int)<(n:Int))=true:=Qt (by omega);have d2:decide (0<n)=true:=Qt hn;have Hl:=Qh (show fU (pre++[⟨d,n⟩])=fU pre++[⟨(n:Nat),[]⟩] by rw[Vo.O,rJ,hd,if_pos hn];rfl);clear hd hn;gi_wp2_with (gi_at_builtin;go_loud (refine Ru (w0:=W) Kl rfl _ _ rfl (w.heap.size+2) _ (fU pre) rfl H.O.own ⟨(n:Nat),[]⟩ [.int .i64 (n:Nat),S []] _ (by first|rfl|simp[Act.eval]) rfl (by omega) (by omega) (by omega) ?_))
    intro v7 w7 Ac gL Vn;obtain⟨g7,n7,k7,rfl⟩:=Fh Ac;have cp7:=jo gL (H.O.ne (k:=w.heap.size) (by omega)) H.O.c0;have fp7:=Gr gL (H.O.ne (k:=w.heap.size) (by omega)) H.O.c0 H.O.f0;obtain⟨k1,k2,k3⟩:=H.O.add (B:=W0.heap.size) (Qn _) Ac gL;gi_wp2
    show KeepsFrom W0.heap.size W _∧_=_∧ME w.heap.size w _ _;exact⟨k2,k3 hl,_,by rw[Hl.O];exact k1,by have:=gL.size;simp;omega⟩
   ·have d1:decide ((0:Int)<(n:Int))=false:=Qf (by omega);have d2:decide (0<n)=false:=Qf hn;have Hl:=Qh (show fU (pre++[⟨d,n⟩])=fU pre by rw[Vo.O,rJ,hd,if_neg hn];simp[iJ]);clear hd hn;gi_wp2
    show KeepsFrom W0.heap.size W _∧_=_∧ME w.heap.size w _ _;exact⟨KeepsFrom.refl _ _,rfl,_,by rw[Hl.O];exact H.O,hl⟩
  ·obtain⟨p1,p2,p3,p4⟩:=Ao hd;by_cases hn:0<n
   ·have d1:decide ((0:Int)<(n:Int))=true:=Qt (by omega);have d2:decide (0<n)=true:=Qt hn;have Hl:=Qh (show fU (pre++[⟨d,n⟩])=fU pre++[⟨0,d⟩,⟨(n:Nat),[]⟩] by rw[Vo.O,rJ,iJ,if_neg hd,if_pos hn];simp);clear hd hn;gi_wp2_with (gi_at_builtin;go_loud (refine Ru (w0:=W) Kl rfl _ _ rfl (w.heap.size+2) _ (fU pre) rfl H.O.own ⟨0,d⟩ [.int .i64 0,S d] _ (by first|rfl|simp[Act.eval]) rfl (by omega) (by omega) (by omega) ?_))
    intro v7 w7 Ac gL Vn;obtain⟨g7,n7,k7,rfl⟩:=Fh Ac;have cp7:=jo gL (H.O.ne (k:=w.heap.size) (by omega)) H.O.c0;have fp7:=Gr gL (H.O.ne (k:=w.heap.size) (by omega)) H.O.c0 H.O.f0;obtain⟨k1,k2,k3⟩:=H.O.add (B:=W0.heap.size) (Qn _) Ac gL;have K1:=Qh k1;have K2:=Qh k2;have K3:=Qh (k3 hl);have c7:=k1.c0;have lu:W.heap.size≤(w7.setCell ⟨w.heap.size,0,none⟩ (.slice g7 n7 k7)).heap.size:=by have:=gL.size;simp;omega
    have La:(fU pre++[(⟨0,d⟩:Sg)]).length≤2*pre.length+1:=by simp;omega
    clear k1 k2 k3 Ac gL Vn c0;gi_wp2_with (gi_at_builtin;go_loud (refine Ru (w0:=(w7.setCell ⟨w.heap.size,0,none⟩ (.slice g7 n7 k7))) Kl rfl _ _ rfl (w.heap.size+2) _ (fU pre++[⟨0,d⟩]) rfl K1.O.own ⟨(n:Nat),[]⟩ [.int .i64 (n:Nat),S []] _ (by first|rfl|simp[Act.eval]) rfl (by omega) (by omega) (by omega) ?_))
    intro v8 w8 uM qN Av;obtain⟨g8,n8,k8,rfl⟩:=Fh uM;have cp8:=jo qN (K1.O.ne (k:=w.heap.size) (by omega)) K1.O.c0;have fp8:=Gr qN (K1.O.ne (k:=w.heap.size) (by omega)) K1.O.c0 K1.O.f0;obtain⟨k1,k2,k3⟩:=K1.O.add (B:=W0.heap.size) (Qn _) uM qN;gi_wp2
    show KeepsFrom W0.heap.size W _∧_=_∧ME w.heap.size w _ _;exact⟨K2.O.trans k2,(k3 (by omega)).trans K3.O,_,by rw[Hl.O];exact k1,by have:=qN.size;simp;omega⟩
   ·have d1:decide ((0:Int)<(n:Int))=false:=Qf (by omega);have d2:decide (0<n)=false:=Qf hn;have Hl:=Qh (show fU (pre++[⟨d,n⟩])=fU pre++[⟨0,d⟩] by rw[Vo.O,rJ,iJ,if_neg hd,if_neg hn];simp);clear hd hn;gi_wp2_with (gi_at_builtin;go_loud (refine Ru (w0:=W) Kl rfl _ _ rfl (w.heap.size+2) _ (fU pre) rfl H.O.own ⟨0,d⟩ [.int .i64 0,S d] _ (by first|rfl|simp[Act.eval]) rfl (by omega) (by omega) (by omega) ?_))
    intro v7 w7 Ac gL Vn;obtain⟨g7,n7,k7,rfl⟩:=Fh Ac;have cp7:=jo gL (H.O.ne (k:=w.heap.size) (by omega)) H.O.c0;have fp7:=Gr gL (H.O.ne (k:=w.heap.size) (by omega)) H.O.c0 H.O.f0;obtain⟨k1,k2,k3⟩:=H.O.add (B:=W0.heap.size) (Qn _) Ac gL;gi_wp2
    show KeepsFrom W0.heap.size W _∧_=_∧ME w.heap.size w _ _;exact⟨k2,k3 hl,_,by rw[Hl.O];exact k1,by have:=gL.size;simp;omega⟩
 case done=>
  rintro D xs W hD hS ⟨v,h,hl⟩ hK;have c0:=h.c0;have hbs:=h.eY.size;gi_wp2
  refine⟨by simp,.inl ⟨_,_,rfl,run_takeDeferred hK,?_⟩⟩;have h2:=h.turn (Qn _) (show w.heap.size≤w.heap.size from Qn _) (grownBy_putObj' W D (.deferred none)) (fun r e=>by cases e;exact⟨by omega,_,hK,rfl⟩);rw[hS]at h2;obtain⟨ys,q1,q2⟩:=h2.own;exact⟨_,results_tmp rfl _ _ _,v,rfl,aK.lower ⟨ys,q1,q2.1,fun i hi=>by obtain⟨cs,r1,r2⟩:=q2.2 i hi;exact⟨cs,r1,r2⟩⟩ (by omega),h2.eY⟩
 case stop=>
  rintro D c pre W _ _ h _;exact h.elim
open Go.RowKit
theorem Y8(b:Nat)(s:af)(hs:s.length≤140737488355328)(w:World)(hc:w.cell? ⟨b,0,none⟩=some (S s))(rW:b<w.heap.size):
 Calls Tryz.prog 110 #[.slice (some ⟨b,0,none⟩) 1 1] w fun e w'=>e= .returned (S (fA s))∧Below w.heap.size w w':=
 Xot b 0 1 [s] s (by simp) hs w (fun j x hx=>by match j,hx with|0,hx=>cases hx;exact hc) (by simp) rW (by simp)
structure nT (n m B bo:Nat) (C0:Array Value) (w0:World) (J:IH) (W:World) (q:fM) (lm:List Ck) (l:List Xt) (vk ve:Value) (nn:Nat):Prop where
 ro:W.heap[m]?=some (.cells #[vk,.int .i64 q.aV,S q.str] 40 (0,0))
 r0:W.heap[n]?=some (.cells C0 40 (0,0))
 r1:W.heap[n+1]?=some (.cells #[.slice none 0 0,.int .i64 0,S []] 40 (0,0))
 rm:∃D,W.ownsMap Tryz.prog 9 nS B nn D∧sH D lm
 rb:W.heap[bo]?=some (.cells #[ve] 79 (0,0))
 ck:aK qf 156 J W (n+2) vk q.aJ
 ox:aK lY 109 J W (n+2) ve l
 ok:Ok J W
 fn:∀b,b=n∨b=n+1∨b=m∨b=B∨b=bo→J b=none
 fk:∀g,vk.ownBlock=some g→J g=none
 fe:∀g,ve.ownBlock=some g→J g=none
 KA:n+2≤m
 lB:n+2≤B
 lo:n+2≤bo
 hB:B<W.heap.size
 nw:n≤w0.heap.size
 eY:Below n w0 W
section
variable {n m B bo:Nat} {C0:Array Value} {w0:World} {J J':IH} {W W':World} {q q':fM} {lm lm2:List Ck} {l l':List Xt} {vk ve tN KC:Value} {nn:Nat}
theorem nT.lt(h:nT n m B bo C0 w0 J W q lm l vk ve nn):m<W.heap.size∧bo<W.heap.size∧n+1<W.heap.size:=⟨(Qg h.ro),(Qg h.rb),(Qg h.r1)⟩
theorem Vp{W:World}{P:Program}{k:TypeId}{R:Value→Option (DataW Unit×List MemPlace)}{nn:Nat}(h:W.ownsMap P k R b nn D){c:Array Value}{f:Nat×Nat}{i:Nat}(hi:W.heap[i]?=some (.cells c t f)):i≠b:=by
 intro e;subst e;obtain⟨es,clock,hb,_⟩:=h;rw[hi]at hb;cases hb
theorem nT.mb(h:nT n m B bo C0 w0 J W q lm l vk ve nn):m≠bo:=fun e=>by
 have:=h.ro;rw[e,h.rb]at this;exact absurd (Obj.cells.inj (Option.some.inj this)).2.1 (by decide)
theorem nT.mB(h:nT n m B bo C0 w0 J W q lm l vk ve nn):m≠B∧bo≠B:=by
 obtain⟨D,h1,_⟩:=h.rm;exact⟨Vp h1 h.ro,Vp h1 h.rb⟩
theorem nT.wX(h:nT n m B bo C0 w0 J W q lm l vk ve nn):vk.ownBlock≠some m∧vk.ownBlock≠some bo∧vk.ownBlock≠some B∧(∀b,b<n+2→vk.ownBlock≠some b):=by
 refine⟨zm h.ck h.ro (by decide),zm h.ck h.rb (by decide),fun e=> ?_,fun b hb e=> ?_⟩
 ·obtain⟨D,h1,_⟩:=h.rm;obtain⟨_,cur,hc⟩:=tL h.ck e;exact Vp h1 hc rfl
 ·have:=(tL h.ck e).1;omega
theorem nT.Cs(h:nT n m B bo C0 w0 J W q lm l vk ve nn):ve.ownBlock≠some m∧ve.ownBlock≠some bo∧ve.ownBlock≠some B∧(∀b,b<n+2→ve.ownBlock≠some b):=by
 refine⟨zm h.ox h.ro (by decide),zm h.ox h.rb (by decide),fun e=> ?_,fun b hb e=> ?_⟩
 ·obtain⟨D,h1,_⟩:=h.rm;obtain⟨_,cur,hc⟩:=tL h.ox e;exact Vp h1 hc rfl
 ·have:=(tL h.ox e).1;omega
theorem nT.kv(h:nT n m B bo C0 w0 J W q lm l vk ve nn):vk.ownBlock=none∨vk.ownBlock≠ve.ownBlock:=by
 cases hk:vk.ownBlock with
 |none=>exact .inl rfl
 |some g=>
  refine .inr fun e=> ?_;obtain⟨_,c1,h1⟩:=tL h.ck hk;obtain⟨_,c2,h2⟩:=tL h.ox e.symm;rw[h1]at h2;exact absurd (Obj.cells.inj (Option.some.inj h2)).2.1 (by decide)
theorem nT.vkv(h:nT n m B bo C0 w0 J W q lm l vk ve nn):ve.ownBlock=none∨ve.ownBlock≠vk.ownBlock:=by
 rcases h.kv with h1|h1
 ·cases he:ve.ownBlock with
  |none=>exact .inl rfl
  |some g=>exact .inr (by rw[h1];simp)
 ·exact .inr fun e=>h1 e.symm
theorem nT.ext(h:nT n m B bo C0 w0 J W q lm l vk ve nn)(hb:Below W.heap.size W W')(hx:Ext W.heap.size J J')(iQ:Ok J' W'):nT n m B bo C0 w0 J' W' q lm l vk ve nn:=by
 obtain⟨l1,l2,l3⟩:=h.lt;have hk:=hx.keep h.ok (Qn _);have hs:=hb.size;obtain⟨D,d1,d2⟩:=h.rm;refine⟨(hb.block _ l1).trans h.ro,(hb.block _ (by omega)).trans h.r0,(hb.block _ l3).trans h.r1,⟨D,d1.kept (Y4 hb) (by simp),d2⟩,(hb.block _ l2).trans h.rb,(h.ck.below hb).mono hk,(h.ox.below hb).mono hk,iQ,fun b sS=> ?_,fun g hg=> ?_,fun g hg=> ?_,h.KA,h.lB,h.lo,by have:=h.hB;omega,h.nw,h.eY.trans (hb.mono (by omega))⟩
 ·rw[hx b (by have:=h.hB;have:=h.KA;omega)];exact h.fn b sS
 ·rw[hx g ((tL h.ck hg).2.elim fun c hc=>(Qg hc))];exact h.fk g hg
 ·rw[hx g ((tL h.ox hg).2.elim fun c hc=>(Qg hc))];exact h.fe g hg
theorem nT.below(h:nT n m B bo C0 w0 J W q lm l vk ve nn)(hb:Below W.heap.size W W'):nT n m B bo C0 w0 J W' q lm l vk ve nn:=h.ext hb (Ext.refl _ _) (h.ok.below (Qn _) hb)
theorem nT.past(h:nT n m B bo C0 w0 J W q lm l vk ve nn)(o:Obj):nT n m B bo C0 w0 J (W.alloc o) q lm l vk ve nn:=h.below ((Qb _ _).alloc (Qn _) o)
theorem nT.mapped(h:nT n m B bo C0 w0 J W q lm l vk ve nn)(hg:W.grownBy W' (some B)){n2:Nat}(hD:W'.ownsMap Tryz.prog 9 nS B n2 D)(hM:sH D lm2):nT n m B bo C0 w0 J W' q lm2 l vk ve n2:=by
 obtain⟨l1,l2,l3⟩:=h.lt;have hb:=h.lB;have k:∀i,i<W.heap.size→i≠B→W'.heap[i]?=W.heap[i]? :=fun i hi bn=>hg.block i hi (fun e=>bn (by cases e;rfl))
 exact⟨(k _ l1 h.mB.1).trans h.ro,(k _ (by omega) (by omega)).trans h.r0,(k _ l3 (by omega)).trans h.r1,⟨D,hD,hM⟩,(k _ l2 h.mB.2).trans h.rb,h.ck.kept hg (.inr h.wX.2.2.1),h.ox.kept hg (.inr h.Cs.2.2.1),h.ok.grown hg (fun g e=>by cases e;exact h.fn _ (by simp)),h.fn,h.fk,h.fe,h.KA,h.lB,h.lo,by have:=h.hB;have:=hg.size;omega,h.nw,
  h.eY.grown hg (by omega) (fun i e=>by cases e;omega)⟩
theorem nT.added(h:nT n m B bo C0 w0 J W q lm l vk ve nn)(ho:aK qf 156 J W' (n+2) tN q'.aJ)(hg:W.grownBy W' vk.ownBlock)(hl:∀g,tN.ownBlock=some g→vk.ownBlock=some g∨W.heap.size≤g)(e1:q'.aV=q.aV)(e2:q'.str=q.str):
 nT n m B bo C0 w0 J (W'.setCell ⟨m,0,none⟩ tN) q' lm l tN ve nn:=by
 obtain⟨l1,l2,l3⟩:=h.lt;obtain⟨k1,k2,k3,k4⟩:=h.wX;have hm:=h.KA;have s:∀i,i≠m→(W'.setCell ⟨m,0,none⟩ tN).heap[i]?=W'.heap[i]? :=fun i hi=>heap_setCell_other W' ⟨m,0,none⟩ i tN hi;have k:∀i,i<W.heap.size→vk.ownBlock≠some i→W'.heap[i]?=W.heap[i]? :=fun i hi bn=>hg.block i hi (fun e=>bn e.symm);have r1:=(k m l1 k1).trans h.ro;obtain⟨D,d1,d2⟩:=h.rm;have d3:=d1.kept hg (fun e=>k3 e.symm);have gs:W'.grownBy (W'.setCell ⟨m,0,none⟩ tN) (some m):=grownBy_setCell' W' m tN;refine⟨by rw[e1,e2];exact heap_setCell_same W' m 0 _ _ tN r1,(s _ (by omega)).trans ((k _ (by omega) (k4 _ (by omega))).trans h.r0),(s _ (by omega)).trans ((k _ l3 (k4 _ (by omega))).trans h.r1),⟨D,d3.kept gs (fun e=>h.mB.1 (by cases e;rfl)),d2⟩,(s _ h.mb.symm).trans ((k _ l2 k2).trans h.rb),ho.stored (zm ho r1 (by decide)) 0 tN,?_,(h.ok.grown hg (fun g e=>h.fk g e)).setCell (a:=⟨m,0,none⟩) (h.fn m (by simp)) tN,h.fn,fun g hk=> ?_,h.fe,h.KA,h.lB,h.lo,by have:=h.hB;have:=hg.size;simp;omega,h.nw,?_⟩
 ·have ox1:=h.ox.kept hg h.vkv;exact ox1.stored (zm ox1 r1 (by decide)) 0 tN
 ·rcases hl g hk with h1|h1
  ·exact h.fk g h1
  ·exact h.ok.fresh h1
 ·exact(h.eY.grown hg (by omega) (fun i e=>by have:=(tL h.ck e).1;omega)).setCell (p:=⟨m,0,none⟩) (by show n≤m;omega) tN
theorem nT.wrote(h:nT n m B bo C0 w0 J W q lm l vk ve nn)(b:af):nT n m B bo C0 w0 J (W.setCell ⟨m,2,none⟩ (S b)) ⟨q.aJ,q.aV,b⟩ lm l vk ve nn:=by
 have hm:=h.KA;have s:∀i,i≠m→(W.setCell ⟨m,2,none⟩ (S b)).heap[i]?=W.heap[i]? :=fun i hi=>heap_setCell_other W ⟨m,2,none⟩ i (S b) hi;have gs:W.grownBy (W.setCell ⟨m,2,none⟩ (S b)) (some m):=⟨rfl,rfl,rfl,by simp,fun i _ hk=>s i (fun e=>hk (by rw[e]))⟩;obtain⟨D,d1,d2⟩:=h.rm;exact⟨heap_setCell_same W m 2 _ _ (S b) h.ro,(s _ (by omega)).trans h.r0,(s _ (by omega)).trans h.r1,⟨D,d1.kept gs (fun e=>h.mB.1 (by cases e;rfl)),d2⟩,(s _ h.mb.symm).trans h.rb,h.ck.stored h.wX.1 2 _,h.ox.stored h.Cs.1 2 _,h.ok.setCell (a:=⟨m,2,none⟩) (h.fn m (by simp)) _,h.fn,h.fk,h.fe,h.KA,h.lB,h.lo,by have:=h.hB;simp;omega,h.nw,h.eY.setCell (p:=⟨m,2,none⟩) (by show n≤m;omega) _⟩
theorem nT.MF(h:nT n m B bo C0 w0 J W q lm l vk ve nn)(hr:W'.heap[bo]?=some (.cells #[KC] 79 (0,0)))(ho:aK lY 109 J W' (n+2) KC l')(hg:vP W W' ve.ownBlock bo)(hl:∀g,KC.ownBlock=some g→ve.ownBlock=some g∨W.heap.size≤g):nT n m B bo C0 w0 J W' q lm l' vk KC nn:=by
 obtain⟨l1,l2,l3⟩:=h.lt;obtain⟨k1,k2,k3,k4⟩:=h.Cs;have hb:=h.lo;have k:∀i,i<W.heap.size→ve.ownBlock≠some i→i≠bo→W'.heap[i]?=W.heap[i]? :=fun i hi bn DR=>hg.block i hi (fun e=>bn e.symm) DR;obtain⟨D,⟨es,clock,d1,d2⟩,d3⟩:=h.rm;refine⟨(k _ l1 k1 h.mb).trans h.ro,(k _ (by omega) (k4 _ (by omega)) (by omega)).trans h.r0,(k _ l3 (k4 _ (by omega)) (by omega)).trans h.r1,⟨D,⟨es,clock,(k _ h.hB k3 h.mB.2.symm).trans d1,d2⟩,d3⟩,hr,?_,ho,?_,h.fn,h.fk,fun g hk=> ?_,h.KA,h.lB,h.lo,Nat.lt_of_lt_of_le h.hB hg.size,h.nw,hg.below h.eY h.nw (fun g e=>by have:=(tL h.ox e).1;omega) (by omega)⟩
 ·obtain⟨xs,x1,x2⟩:=h.ck;refine⟨xs,⟨x1.1,?_⟩,x2⟩;rcases x1.2 with y|⟨g,cap,cur,y1,y2,y3,y4⟩
  ·exact .inl y
  ·have Y9:vk.ownBlock=some g:=by rw[y1];rfl
   refine .inr ⟨g,cap,cur,y1,y2,(k g (Qg y3) (fun e=> ?_) (fun e=>h.wX.2.1 (by rw[Y9,e]))).trans y3,y4⟩;rcases h.kv with z|z
   ·rw[Y9]at z;cases z
   ·exact z (by rw[Y9,e])
 ·refine h.ok.of_block fun b c hc=>k b (h.ok.lt hc) (fun e=> ?_) (fun e=> ?_)
  ·rw[h.fe b e]at hc;cases hc
  ·rw[e,h.fn bo (by simp)]at hc;cases hc
 ·rcases hl g hk with h1|h1
  ·exact h.fe g h1
  ·exact h.ok.fresh h1
end
structure Fq (s:dK):Prop where
 num:0≤s.num∧s.num≤255
 aG:0≤s.aG∧s.aG≤1000000000
 bR:s.bR.length≤32
 bC:s.bC.length≤14680064
 Cn:s.aB.length≤400
 err:∀e∈s.aB,aP e=0
 wf:∀e∈s.aB,e.Wf
 aA:∀e∈s.aB,e.aA.length≤1000
theorem Xqy(h:Fq s):(rA s).length≤400:=by
 have h1:=Eb (n:=s.num) (by have:=h.num;omega) (by have:=h.num;omega);have h2:=Eb (n:=s.aG) (by have:=h.aG;omega) (by have:=h.aG;omega);have h3:=yw s.bR (by have:=h.bR;omega);have h4:=Ib s.bC.length (by have:=h.bC;omega);have h5:=Rj s.bC;have h6:=yw (fA s.bC) (by omega);have h7:=Ib s.aB.length (by have:=h.Cn;omega);have h8:=h.bR;unfold rA;simp only[List.length_append];omega
theorem Xtr(h:Fq s)(k:Nat):(qD s k).length≤22000000:=by
 have h1:=Xqy h;have h2:=Xoh (l:=s.aB.take k) fun e he=>⟨Va (h.err e (List.mem_of_mem_take he)),h.aA e (List.mem_of_mem_take he)⟩;have h3:(s.aB.take k).length≤s.aB.length:=by simp;omega
 have h4:=h.Cn;unfold qD;rw[List.length_append];omega
abbrev Vq(n:Nat)(st p4 sm p6 p7 u:af)(ao:Option Addr)(le co:Nat)(x:Nat×Nat):List (Option Tmp×Value):=
 [(some 20,.pointer (some ⟨n,4,none⟩)),(some 21,S st),(some 22,.int .i64 (st.length:Int)),(some 23,S p4),(some 24,.pointer (some ⟨n,4,none⟩)),(some 25,S st),(some 26,.slice (some ⟨x.1,0,none⟩) 1 1),(some 27,S sm),(some 28,S p6),(some 29,S (p4++p6)),
  (some 30,.pointer (some ⟨n,3,none⟩)),(some 31,.slice ao le co),(some 32,.int .i64 (le:Int)),(some 33,S p7),(some 34,S u),(some 35,.tuple #[.int .i64 (u.length:Int),.nilIface])]
theorem qG{n:Nat}{st p4 sm p6 p7 u:af}{ao:Option Addr}{le co:Nat}{x:Nat×Nat}:cO (Vq n st p4 sm p6 p7 u ao le co x):=by
 unfold cO;simp
theorem Xqr(I:IH)(hI:eG I)(s:dK)(ve:Value)(Fs:aZ bQ I ve s.aB)(hg:Fq s)(w:World)(hw:Ok I w):
 Calls Tryz.prog 104 #[Dj s ve] w fun r w'=>r= .returned (S (fA (nE s)))∧Below w.heap.size w w':=by
 obtain⟨ao,co,rfl,_,_,_⟩:=id Fs;have Hv:=Qh Fs;have Hg:=Qh hg;have N8:=hg.num;have hdt:=hg.aG;have anM:=hg.Cn;have jk:=hg.bC;have hpv:=hg.bR;have Vr:=Qh (fun k=>Xtr hg k);have K8:=Eb (n:=s.num) (by omega) (by omega);have PO:=Eb (n:=s.aG) (by omega) (by omega);have CU:=yw s.bR (by omega);have LH:=Ib s.bC.length (by omega);have zM:=Rj s.bC;have CW:=yw (fA s.bC) (by omega);have hm6:=Ib s.aB.length (by omega);have H1:=Qh (fun w hw=>O9 I hI s.num (by omega) (by omega) w hw);have H2:=Qh (fun w hw=>O9 I hI s.aG (by omega) (by omega) w hw);have H3:=Qh (fun w hw=>O6 I hI s.bR (by omega) w hw);have H4:=Qh (fun w hw=>QW I hI s.bC.length (by omega) w hw);have H5:=Qh (fun b w hc hb=>Y8 b s.bC (by omega) w hc hb);have H6:=Qh (fun w hw=>O6 I hI (fA s.bC) (by omega) w hw);have H7:=Qh (fun w hw=>QW I hI s.aB.length (by omega) w hw);have Hh:=Qh (show gB s.num++gB s.aG++fG s.bR++(gB s.bC.length++fG (fA s.bC)++gB s.aB.length)=qD s 0 by
  rw[qD,List.take_zero];simp[rA])
 clear Fs hg N8 hdt;generalize gB s.num=p1 at K8 H1 Hh;generalize gB s.aG=p2 at PO H2 Hh;generalize fG s.bR=p3 at CU H3 Hh;generalize gB (s.bC.length:Int)=p4 at LH H4 Hh;generalize fG (fA s.bC)=p6 at CW H6 Hh;generalize fA s.bC=sm at zM CW H5 H6;generalize gB (s.aB.length:Int)=p7 at hm6 H7 Hh;obtain⟨T,hT⟩:∃T,fA (nE s)=T:=⟨_,rfl⟩;rw[hT];have HT:=Qh hT;clear hT;obtain⟨w1,uJ⟩:∃w1,w.alloc (.cells #[.int .i64 s.num,.int .i64 s.aG,S s.bR,.slice ao s.aB.length co,S s.bC,S s.sl] 76)=w1:=⟨_,rfl⟩;have kU:=Qh (show mD w1 w.heap.size s (.slice ao s.aB.length co) by rw[←uJ];exact Ri rfl (Qb _ _));have aM:Ok I w1:=by rw[←uJ];exact hw.alloc _
 have aH:Below w.heap.size w w1:=by rw[←uJ];exact(Qb w.heap.size w).alloc (Qn _) _
 have om:Lib.IsBuilder 203 5 w1.heap.size w1.heap.size (Lib.byteCells []) (w1.alloc (.cells #[.pointer none,.slice none 0 0] 203)):=Lib.fresh_isBuilder _ _ w1;have Ry:w1.heap.size=w.heap.size+1:=by rw[←uJ];simp
 have bZ:w.heap.size<w1.heap.size:=by omega
 have qg:∀b,w1.heap.size≤b→I b=none:=fun b hb=>aM.fresh hb;have AC:=Qh (mD.past kU.O (.cells #[.pointer none,.slice none 0 0] 203));have nR:Ok I (w1.alloc (.cells #[.pointer none,.slice none 0 0] 203)):=aM.alloc _;go_enter Tryz.func104,Tryz.ntmps104
 go_wp2_with fail
 rw[←Ry];clear Ry;obtain⟨c0,c1,c2,c3,c4,c5⟩:=AC.O;have e0:=cell_regrown c0;have e1:=cell_regrown c1;have e2:=cell_regrown c2;clear c0 c1 c2 c3 c4 c5 kU uJ;refine xy 11 (by kernel_rfl) (by kernel_rfl) ?_;simp only[List.take_succ_cons,List.take_zero,List.drop_succ_cons,List.drop_zero];repeat(go_big_quiet_step ((with_reducible first|exact Calls.regrown_of (H1.O _ (nR.below (Qn _) (below_regrown _ _ _)))|exact Calls.regrown_of (H2.O _ (nR.below (Qn _) (below_regrown _ _ _)))|exact Calls.regrown_of (H3.O _ (nR.below (Qn _) (below_regrown _ _ _))))))
 refine wpQuiet_nil ?_;intro w2 bq;have aL:Below ((w1.alloc (.cells #[.pointer none,.slice none 0 0] 203))).heap.size ((w1.alloc (.cells #[.pointer none,.slice none 0 0] 203))) w2:=by
  obtain⟨pq,rfl⟩:=bq;exact below_regrown _ _ _
 clear bq;have mV:=EW om aL;have aX:Ok I w2:=nR.below (Qn _) aL;have oH:=Qh (AC.O.aQ aL);have aY:Below w.heap.size w w2:=(aH.alloc (by have:=aH.size;omega) (.cells #[.pointer none,.slice none 0 0] 203)).trans (aL.mono (by simp;omega));have eZ:w1.heap.size≤w2.heap.size:=by have:=aL.size;simp at this;omega
 clear e0 e1 e2 aL AC om aM nR aH H1 H2 H3;go_wp2_with fail
 refine(Tryz.Builder_WriteString w1.heap.size w1.heap.size _ _ _ mV (by rw[ByteArray.size_mk',List.size_toArray];simp[Lib.byteCells];omega) (by omega)).mono ?_;rintro e3 w3 ⟨rfl,MG,dX⟩;have pJ:=MG.lt;have MH:=Qh (Rc (z:=p1++p2++p3) MG (by simp));have eT:Ok I w3:=aX.of_block fun b c hb=>dX.block b (Nat.lt_of_not_le fun h=>by rw[qg b h]at hb;cases hb);have l8:=Qh (oH.O.far dX bZ);have gp:=aY.trans (dX.mono (Nat.le_of_lt bZ));clear mV MG dX aY aX oH eZ;obtain⟨c0,c1,c2,c3,c4,c5⟩:=l8.O;go_wp2_with fail
 obtain⟨bl,rW⟩:∃bl,w1.heap.size=bl:=⟨_,rfl⟩;obtain⟨u,hu⟩:∃u,p4++(p6++p7)=u:=⟨_,rfl⟩;have d46:¬9223372036854775807<p4.length+p6.length:=by omega
 have d51:¬9223372036854775807<p4.length+p6.length+p7.length:=by omega
 have hul:u.length=p4.length+p6.length+p7.length:=by rw[←hu];simp;omega
 rw[List.append_assoc p4,hu]at Hh;rw[rW]at MH qg bZ pJ ⊢;refine yz (X:=Nat×Nat) (Vq w.heap.size s.bC p4 sm p6 p7 u ao s.aB.length co) (xN w3 15 6 100 [(0,S s.bC)] [] (fun w8=>Lib.IsBuilder 203 5 bl bl (Lib.byteCells (qD s 0)) w8∧bl<w8.heap.size∧ ∃w7,Below w3.heap.size w3 w7∧Below bl w7 w8)) (by kernel_rfl) (by kernel_rfl) ?_ ?_ ?_
 ·exact⟨(0,0),xN.start _ _⟩
 ·rintro x s' a' w' i dM dC ha hC hi;obtain⟨aN,oi,fP,aC⟩:=mem_ready.1 hi;rcases i with _|_|_|_|_|_|_|_|_|_|_|_|_|_|_|_|i
  rotate_left 16
  ·simp at fP
  all_goals
   have dV:=fP;simp at fP;subst fP;simp[Region.binds]at aC
  ·have e1:a'.tmps[1]?.getD undef= .pointer (some ⟨w.heap.size,0,none⟩):=oD ha (by simp);have hl:s'.getD 15 false=false:=iH dC [14,9,3,2,1,0] (by kernel_rfl) (by rfl) aN;refine wpOp_step dV (fun K' hK=> ?_);rw[if_pos (by rfl)];unfold Oper.wp;simp[go_sem,e1,Oper.upon];exact hK _ _ ⟨x,eO (d:=some 20) (v:=(.pointer (some ⟨w.heap.size,4,none⟩))) qG ha rfl aN,hC.step hl (Qb _ _) (by decide) (by decide) (by decide)⟩
  ·have e20:a'.tmps[20]?.getD undef= .pointer (some ⟨w.heap.size,4,none⟩):=gT (i:=0) qG ha rfl (by first|simpa using aC|simpa using aC.1) (by simp);have Zc:=bK (hC.eY (iH dC [14,9,3,2,1] (by kernel_rfl) (by rfl) aN)) c4;have hl:s'.getD 15 false=false:=iH dC [14,9,3,2,1] (by kernel_rfl) (by rfl) aN;refine wpOp_step dV (fun K' hK=> ?_);rw[if_pos (by rfl)];unfold Oper.wp;simp[go_sem,e20,Zc,Oper.upon];exact hK _ _ ⟨x,eO (d:=some 21) (v:=(S s.bC)) qG ha rfl aN,hC.step hl (Qb _ _) (by decide) (by decide) (by decide)⟩
  ·have e21:a'.tmps[21]?.getD undef=S s.bC:=gT (i:=1) qG ha rfl (by first|simpa using aC|simpa using aC.1) (by simp);have hl:s'.getD 15 false=false:=iH dC [14,9,3,2] (by kernel_rfl) (by rfl) aN;refine wpOp_step dV (fun K' hK=> ?_);rw[if_pos (by rfl)];unfold Oper.wp;simp[go_sem,e21,Oper.upon];exact hK _ _ ⟨x,eO (d:=some 22) (v:=(.int .i64 (s.bC.length:Int))) qG ha rfl aN,hC.step hl (Qb _ _) (by decide) (by decide) (by decide)⟩
  ·have e22:a'.tmps[22]?.getD undef= .int .i64 (s.bC.length:Int):=gT (i:=2) qG ha rfl (by first|simpa using aC|simpa using aC.1) (by simp);have hl:s'.getD 15 false=false:=iH dC [14,9,3] (by kernel_rfl) (by rfl) aN;have pR:=eT.below (Qn _) (hC.eY hl);refine wpOp_step dV (fun K' hK=> ?_);rw[if_pos (by rfl)];unfold Oper.wp;simp[go_sem,e22,Oper.upon];refine(H4.O w' pR).mono ?_;rintro r4 w4 ⟨rfl,aR⟩;exact hK _ _ ⟨x,eO (d:=some 23) (v:=(S p4)) qG ha rfl aN,hC.step hl aR (by decide) (by decide) (by decide)⟩
  ·have e1:a'.tmps[1]?.getD undef= .pointer (some ⟨w.heap.size,0,none⟩):=oD ha (by simp);have hl:s'.getD 15 false=false:=iH dC [14,9,8,7,6,5,4] (by kernel_rfl) (by rfl) aN;refine wpOp_step dV (fun K' hK=> ?_);rw[if_pos (by rfl)];unfold Oper.wp;simp[go_sem,e1,Oper.upon];exact hK _ _ ⟨x,eO (d:=some 24) (v:=(.pointer (some ⟨w.heap.size,4,none⟩))) qG ha rfl aN,hC.step hl (Qb _ _) (by decide) (by decide) (by decide)⟩
  ·have e24:a'.tmps[24]?.getD undef= .pointer (some ⟨w.heap.size,4,none⟩):=gT (i:=4) qG ha rfl (by first|simpa using aC|simpa using aC.1) (by simp);have Zc:=bK (hC.eY (iH dC [14,9,8,7,6,5] (by kernel_rfl) (by rfl) aN)) c4;have hl:s'.getD 15 false=false:=iH dC [14,9,8,7,6,5] (by kernel_rfl) (by rfl) aN;refine wpOp_step dV (fun K' hK=> ?_);rw[if_pos (by rfl)];unfold Oper.wp;simp[go_sem,e24,Zc,Oper.upon];exact hK _ _ ⟨x,eO (d:=some 25) (v:=(S s.bC)) qG ha rfl aN,hC.step hl (Qb _ _) (by decide) (by decide) (by decide)⟩
  ·have e25:a'.tmps[25]?.getD undef=S s.bC:=gT (i:=5) qG ha rfl (by first|simpa using aC|simpa using aC.1) (by simp);have hl:s'.getD 15 false=false:=iH dC [14,9,8,7,6] (by kernel_rfl) (by rfl) aN;have ha:=ha.trans (YF (L:=Vq w.heap.size s.bC p4 sm p6 p7 u ao s.aB.length co x) (M:=Vq w.heap.size s.bC p4 sm p6 p7 u ao s.aB.length co (w'.heap.size,x.2)) 6 rfl (fun j bn=>by
    rcases j with _|_|_|_|_|_|_|j<;>first|rfl|(exact absurd rfl bn)|simp) aN)
   refine wpOp_step dV (fun K' hK=> ?_);rw[if_pos (by rfl)];unfold Oper.wp;simp[go_sem,e25,Oper.upon];refine hK _ _ ⟨(w'.heap.size,x.2),eO (d:=some 26) (v:= .slice (some ⟨w'.heap.size,0,none⟩) 1 1) qG ha rfl aN,hC.um hl ((Qb _ _).alloc (Qn _) _) (by decide) (by decide) (fun p hp=> ?_)⟩;simp at hp;subst hp;simp
  ·have e26:a'.tmps[26]?.getD undef= .slice (some ⟨x.1,0,none⟩) 1 1:=gT (i:=6) qG ha rfl (by first|simpa using aC|simpa using aC.1) (by simp);have PM:=hC.f1 (by first|simpa using aC|simpa using aC.1) (iH dC [14,9,8,7] (by kernel_rfl) (by rfl) aN) _ (List.mem_singleton.2 rfl);have hl:s'.getD 15 false=false:=iH dC [14,9,8,7] (by kernel_rfl) (by rfl) aN;have pR:=eT.below (Qn _) (hC.eY hl);refine wpOp_step dV (fun K' hK=> ?_);rw[if_pos (by rfl)];unfold Oper.wp;simp[go_sem,e26,Oper.upon];refine(H5.O x.1 w' PM (block_lt_of_cell PM)).mono ?_;rintro r4 w4 ⟨rfl,aR⟩;exact hK _ _ ⟨x,eO (d:=some 27) (v:=(S sm)) qG ha rfl aN,hC.step hl aR (by decide) (by decide) (by decide)⟩
  ·have e27:a'.tmps[27]?.getD undef=S sm:=gT (i:=7) qG ha rfl (by first|simpa using aC|simpa using aC.1) (by simp);have hl:s'.getD 15 false=false:=iH dC [14,9,8] (by kernel_rfl) (by rfl) aN;have pR:=eT.below (Qn _) (hC.eY hl);refine wpOp_step dV (fun K' hK=> ?_);rw[if_pos (by rfl)];unfold Oper.wp;simp[go_sem,e27,Oper.upon];refine(H6.O w' pR).mono ?_;rintro r4 w4 ⟨rfl,aR⟩;exact hK _ _ ⟨x,eO (d:=some 28) (v:=(S p6)) qG ha rfl aN,hC.step hl aR (by decide) (by decide) (by decide)⟩
  ·have e23:a'.tmps[23]?.getD undef=S p4:=gT (i:=3) qG ha rfl (by simpa using aC.1) (by simp);have e28:a'.tmps[28]?.getD undef=S p6:=gT (i:=8) qG ha rfl (by first|simpa using aC.2|simpa using aC.2.1) (by simp);have hl:s'.getD 15 false=false:=iH dC [14,9] (by kernel_rfl) (by rfl) aN;refine wpOp_step dV (fun K' hK=> ?_);rw[if_pos (by rfl)];unfold Oper.wp;simp[go_sem,e23,e28,d46,Oper.upon];exact hK _ _ ⟨x,eO (d:=some 29) (v:=(S (p4++p6))) qG ha rfl aN,hC.step hl (Qb _ _) (by decide) (by decide) (by decide)⟩
  ·have e1:a'.tmps[1]?.getD undef= .pointer (some ⟨w.heap.size,0,none⟩):=oD ha (by simp);have hl:s'.getD 15 false=false:=iH dC [14,13,12,11,10] (by kernel_rfl) (by rfl) aN;refine wpOp_step dV (fun K' hK=> ?_);rw[if_pos (by rfl)];unfold Oper.wp;simp[go_sem,e1,Oper.upon];exact hK _ _ ⟨x,eO (d:=some 30) (v:=(.pointer (some ⟨w.heap.size,3,none⟩))) qG ha rfl aN,hC.step hl (Qb _ _) (by decide) (by decide) (by decide)⟩
  ·have e30:a'.tmps[30]?.getD undef= .pointer (some ⟨w.heap.size,3,none⟩):=gT (i:=10) qG ha rfl (by first|simpa using aC|simpa using aC.1) (by simp);have c3':=bK (hC.eY (iH dC [14,13,12,11] (by kernel_rfl) (by rfl) aN)) c3;have hl:s'.getD 15 false=false:=iH dC [14,13,12,11] (by kernel_rfl) (by rfl) aN;refine wpOp_step dV (fun K' hK=> ?_);rw[if_pos (by rfl)];unfold Oper.wp;simp[go_sem,e30,c3',Oper.upon];exact hK _ _ ⟨x,eO (d:=some 31) (v:=(.slice ao s.aB.length co)) qG ha rfl aN,hC.step hl (Qb _ _) (by decide) (by decide) (by decide)⟩
  ·have e31:a'.tmps[31]?.getD undef= .slice ao s.aB.length co:=gT (i:=11) qG ha rfl (by first|simpa using aC|simpa using aC.1) (by simp);have hl:s'.getD 15 false=false:=iH dC [14,13,12] (by kernel_rfl) (by rfl) aN;refine wpOp_step dV (fun K' hK=> ?_);rw[if_pos (by rfl)];unfold Oper.wp;simp[go_sem,e31,Oper.upon];exact hK _ _ ⟨x,eO (d:=some 32) (v:=(.int .i64 (s.aB.length:Int))) qG ha rfl aN,hC.step hl (Qb _ _) (by decide) (by decide) (by decide)⟩
  ·have e32:a'.tmps[32]?.getD undef= .int .i64 (s.aB.length:Int):=gT (i:=12) qG ha rfl (by first|simpa using aC|simpa using aC.1) (by simp);have hl:s'.getD 15 false=false:=iH dC [14,13] (by kernel_rfl) (by rfl) aN;have pR:=eT.below (Qn _) (hC.eY hl);refine wpOp_step dV (fun K' hK=> ?_);rw[if_pos (by rfl)];unfold Oper.wp;simp[go_sem,e32,Oper.upon];refine(H7.O w' pR).mono ?_;rintro r4 w4 ⟨rfl,aR⟩;exact hK _ _ ⟨x,eO (d:=some 33) (v:=(S p7)) qG ha rfl aN,hC.step hl aR (by decide) (by decide) (by decide)⟩
  ·have e29:a'.tmps[29]?.getD undef=S (p4++p6):=gT (i:=9) qG ha rfl (by simpa using aC.1) (by simp);have e33:a'.tmps[33]?.getD undef=S p7:=gT (i:=13) qG ha rfl (by first|simpa using aC.2|simpa using aC.2.1) (by simp);have hl:s'.getD 15 false=false:=iH dC [14] (by kernel_rfl) (by rfl) aN;refine wpOp_step dV (fun K' hK=> ?_);rw[if_pos (by rfl)];unfold Oper.wp;simp[go_sem,e29,e33,d51,hu,Oper.upon];exact hK _ _ ⟨x,eO (d:=some 34) (v:=(S u)) qG ha rfl aN,hC.step hl (Qb _ _) (by decide) (by decide) (by decide)⟩
  ·have e34:a'.tmps[34]?.getD undef=S u:=gT (i:=14) qG ha rfl (by first|simpa using aC|simpa using aC.1) (by simp);have e3x:a'.tmps[3]?.getD undef= .pointer (some ⟨bl,0,none⟩):=oD ha (by simp);have hl:s'.getD 15 false=false:=jZ aN;have p8:=hC.eY hl;refine wpOp_step dV (fun K' hK=> ?_);rw[if_pos (by rfl)];unfold Oper.wp;simp[go_sem,e34,e3x,Oper.upon];refine(Tryz.Builder_WriteString bl bl _ _ _ (EW MH.O p8) (by rw[ByteArray.size_mk',List.size_toArray];simp[Lib.byteCells];omega) (by have:=p8.size;omega)).mono ?_;rintro r8 w8 ⟨rfl,Fu,mR⟩;refine hK _ _ ⟨x,eO (d:=some 35) (v:= .tuple #[.int .i64 (u.length:Int),.nilIface]) qG ha rfl aN,xN.end' aN ⟨Rc (z:=qD s 0) Fu Hh.O,Fu.lt,w',p8,mR⟩⟩
 ·rintro x s' a' w8 gz ha hC;obtain⟨Fu,I7,w7,vg,mR⟩:=hC.fin (gz 15 (by decide));rw[xL _ _ _ _ (fun i hi=>by rw[Nat.zero_add];exact gz i (by simpa using hi))]at ha;subst ha;simp only[eH,Act.put];subst rW;have Rz:=Qh Fu;have kL:Ok I w8:=(eT.below (Qn _) vg).of_block fun b c hb=>mR.block b (Nat.lt_of_not_le fun h=>by rw[qg b h]at hb;cases hb);have Zd:=Qh ((l8.O.aQ vg).far mR bZ);have RA:=(gp.trans (vg.mono gp.size)).trans (mR.mono (Nat.le_of_lt bZ));clear hC gz Fu mR vg d46 d51 hul hu eT l8 gp MH c0 c1 c2 c3 c4 c5 H4 H5 H6 H7 pJ;obtain⟨c0,c1,c2,c3,c4,c5⟩:=Zd.O;go_wp2_with fail
  clear c0 c1 c2 c3 c4 c5;go_loopw [39] (fun s39 wr=> ∃k:Nat,k≤s.aB.length∧s39= .int .i64 k∧Lib.IsBuilder 203 5 w1.heap.size w1.heap.size (Lib.byteCells (qD s k)) wr∧Ok I wr∧mD wr w.heap.size s (.slice ao s.aB.length co)∧Below w.heap.size w wr∧w1.heap.size<wr.heap.size) (fun i _=>s.aB.length-(intOf i).toNat)
  case atStart=>exact⟨0,Nat.zero_le _,rfl,Rz.O,kL,Zd.O,RA,I7⟩
  case round=>
   clear Rz Zd RA kL I7;obtain⟨k,hk,rfl,nX,dG,ug,hb,dM⟩:=hrel;have tJ:=Qh nX;have vO:=Qh ug;have CR:=Vr.O k;clear nX ug;by_cases hlt:k<s.aB.length
   ·obtain⟨x,Q7,Q8,b,off,cap',dA,cZ,⟨x0,x1,x2,x3,x4,x5,x6⟩,h1,h2⟩:=yu Hv.O dG k hlt;cases cZ;obtain⟨xa,xc,rfl,_,_,_⟩:=id h1;obtain⟨xx,xd,rfl,_,_,_⟩:=id h2;have sO:x∈s.aB:=by rw[←dA];exact List.getElem_mem hlt
    have Ik:=Hg.O.wf x sO;have PL:=Hg.O.aA x sO;have oG:=Hg.O.err x sO;have TV:=Va oG;have Bq:=TV.ag;have hxt:=TV.target;have bu:=Qh (Xqx hlt dA);have JQ:Ok I (wr.alloc (.cells #[.int .i64 x.au,S x.ag,.slice xa x.aj.length xc,S x.target,.int .i64 x.size,S x.av,.slice xx x.aA.length xd] 81)):=dG.alloc _;have Ze:=Qh (fun w hw=>Xsi I hI x _ _ h1 h2 Ik (by omega) (by omega) TV oG (by omega) w hw);have xm:=Xok TV (show x.aA.length≤1000 by omega);clear dA h1 h2 sO oG Ik TV;generalize yR x=y at bu Ze xm;generalize qD s k=u at bu tJ CR;go_wp2_with fail
    refine(Ze.O _ JQ).mono ?_;rintro e1 w4 ⟨rfl,aR⟩;have vg:Below wr.heap.size wr w4:=((Qb _ _).alloc (Qn _) (.cells #[.int .i64 x.au,S x.ag,.slice xa x.aj.length xc,S x.target,.int .i64 x.size,S x.av,.slice xx x.aA.length xd] 81)).trans (aR.mono (by simp));have RB:=EW tJ.O vg;have bU:Ok I w4:=dG.below (Qn _) vg;have gG:=Qh (vO.O.aQ vg);have dJ:=vg.size;have bI:=hb.trans (vg.mono hb.size);clear aR vg tJ vO x0 x1 x2 x3 x4 x5 x6 Ze JQ;go_wp2_with fail
    refine(Tryz.Builder_WriteString w1.heap.size w1.heap.size _ _ _ RB (by rw[ByteArray.size_mk',List.size_toArray];simp[Lib.byteCells];omega) (by omega)).mono ?_;rintro e5 w5 ⟨rfl,xO,bM⟩;have jM:=xO.lt;have IW:=Qh (Rc (z:=qD s (k+1)) xO bu.O.symm);have dL:Ok I w5:=bU.of_block fun b c hb=>bM.block b (Nat.lt_of_not_le fun h=>by rw[qg b h]at hb;cases hb);have mU:=Qh (gG.O.far bM bZ);have dE:=bI.trans (bM.mono (Nat.le_of_lt bZ));clear RB xO bM bI bU gG;go_wp2;go_roundw;case rel=>exact⟨k+1,by omega,by go_num,IW.O,dL,mU.O,dE,jM⟩
    case measure=>simp[intOf];omega
   ·have Hn:=Qh (Xtq s (k:=k) (by omega));rw[Hn.O]at tJ CR;obtain⟨u,hu⟩:∃u,nE s=u:=⟨_,rfl⟩;rw[hu]at tJ CR;have Hu:=Qh (show T=fA u by rw[←HT.O,hu]);clear hu Hn;go_wp2_with fail
    refine(Tryz.Builder_String_any w1.heap.size w1.heap.size _ _ tJ.O (by omega)).mono ?_;rintro e3 w5 ⟨rfl,bM⟩;have dE:=hb.trans (bM.mono (Nat.le_of_lt bZ));have H6:=Qh (Y8 w5.heap.size u (by omega) (w5.alloc (.cells #[S u] 9)) (by simp) (by simp));go_wp2_with fail
    refine H6.O.mono ?_;rintro e6 w6 ⟨rfl,fF⟩;go_wp2;go_ret;rw[Hu.O];exact⟨rfl,(dE.alloc dE.size _).trans (fF.mono (by have:=dE.size;simp;omega))⟩
