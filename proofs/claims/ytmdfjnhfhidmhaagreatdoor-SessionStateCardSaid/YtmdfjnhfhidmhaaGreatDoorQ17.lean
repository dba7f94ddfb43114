/- Lemmas for the claim's theorem;conditions: as each says. -/
import Derived.Test.YtmdfjnhfhidmhaaGreatDoorQ16
import Derived.Laws.OwnMore
set_option maxHeartbeats 0
set_option maxRecDepth 100000
set_option linter.all false
namespace Go.Proofs.YtmdfjnhfhidmhaaGreatDoor
open Go.RowKit
variable{w:World}{s:bu}{b:Nat}{w':World}{ve:Value}{x y:Xt}{l:List Xt}{I:IH}{k:Nat}{n:Int}{v:Value}{acc r:af}{m:Int}
theorem Kq{u v z:af}(h:Lib.BuilderAt 203 5 b b (.pointer (some ⟨b,0,none⟩)) (Lib.byteCells u++Lib.strCells ⟨v.toArray⟩) w)(e:u++v=z):Lib.IsBuilder 203 5 b b (Lib.byteCells z) w:= .inr (by
 rw[Lib.strCells_toArray,show Lib.byteCells u++Lib.byteCells v=Lib.byteCells z by rw[←e];simp[Lib.byteCells]]at h;exact h)
theorem Xoh(I:IH)(hI:cB I)(e:aQ)(va vx:Value)(gW:aY lv I va e.au)(j6:aY kQ I vx e.aD)(lu:e.Wf)(nO:e.ag.length≤4294967280)(sO:e.av.length≤4294967280)(hc:oC e)(he:aL e=0)(hx:e.aD.length≤1000)(w:World)(hw:Ok I w):
 Calls Tryz.prog 155 #[fG e va vx] w fun r w'=>r= .returned (.tuple #[S (uC e),.int .i64 0])∧Below w.heap.size w w':=by
 have oH:=Qh (fun w hw=>Xse I hI e va vx gW j6 lu nO sO hc he w hw);obtain⟨aa,ca,rfl,_,_,_⟩:=id gW;obtain⟨ax,cx,rfl,_,_,_⟩:=id j6;have Hv:=Qh j6;have lN:=hc.s0;have xu:=hc.s1;have akf:=hc.aI;have Pf:=Qh hc.Rf;have Hl:=Qh (XX hc hx);have vv:=Hl.q 0;have hhl:=XU hc;have Hz:=Qh (show dL (jN e)++dZ e.size++dL e.aI++dZ e.aD.length=mi e 0 from(Xod e).symm);have yO:=tq (jN e) (by omega);have Ee:=yE lN (by omega);have MF:=tq e.aI (by omega);have hl4:=BG e.aD.length (by omega);have H1:=Qh (fun w hw=>GZ I hI (jN e) (by omega) w hw);have H2:=Qh (fun w hw=>G8 I hI e.size lN (by omega) w hw);have H3:=Qh (fun w hw=>GZ I hI e.aI (by omega) w hw);have H4:=Qh (fun w hw=>JL I hI e.aD.length (by omega) w hw);clear gW j6 hc he;generalize dL (jN e)=p1 at Hz yO H1;generalize dZ e.size=p2 at Hz Ee H2;generalize dL e.aI=p3 at Hz MF H3;generalize dZ (e.aD.length:Int)=p4 at Hz hl4 H4;generalize jN e=hd at oH H1 hhl yO;go_enter Tryz.func155,Tryz.ntmps155
 go_wp2_with fail
 refine(oH.q _ (hw.alloc _)).mono ?_;rintro e1 w1 ⟨rfl,aG⟩;have lX:=Qh (eO (e:=e) rfl aG);have aS:Ok I w1:=(hw.alloc _).below (Qn _) aG;have aO:=((Qb w.heap.size w).alloc (Qn _) (.cells #[.int .i64 e.aj,S e.ag,.slice aa e.au.length ca,S e.av,.int .i64 e.size,S e.aI,.slice ax e.aD.length cx] 81)).trans (aG.mono (by simp));have kH:Lib.IsBuilder 203 5 w1.heap.size w1.heap.size (Lib.byteCells []) (w1.alloc (.cells #[.pointer none,.slice none 0 0] 203)):=Lib.fresh_isBuilder _ _ w1;have bW:w.heap.size<w1.heap.size:=by have:=aG.size;simp at this;omega
 have lU:∀b,w1.heap.size≤b→I b=none:=fun b hb=>aS.fresh hb;have vM:=Qh (eY.past lX.q (.cells #[.pointer none,.slice none 0 0] 203));have kw:Ok I (w1.alloc (.cells #[.pointer none,.slice none 0 0] 203)):=aS.alloc _;obtain⟨c0,c1,c2,c3,c4,c5,c6⟩:=vM.q;have e4:=cell_regrown c4;have e5:=cell_regrown c5;have e6:=cell_regrown c6;clear aG oH c0 c1 c2 c3;go_wp2_with fail
 refine Pw 15 (by kernel_rfl) (by kernel_rfl) ?_;simp only[List.take_succ_cons,List.take_zero,List.drop_succ_cons,List.drop_zero];repeat(go_big_quiet_step ((with_reducible first|exact Calls.regrown_of (H1.q _ (kw.below (Qn _) (below_regrown _ _ _)))|exact Calls.regrown_of (H2.q _ (kw.below (Qn _) (below_regrown _ _ _)))|exact Calls.regrown_of (H3.q _ (kw.below (Qn _) (below_regrown _ _ _)))|exact Calls.regrown_of (H4.q _ (kw.below (Qn _) (below_regrown _ _ _))))))
 refine wpQuiet_nil ?_;intro w2 dD;have aP:Below ((w1.alloc (.cells #[.pointer none,.slice none 0 0] 203))).heap.size ((w1.alloc (.cells #[.pointer none,.slice none 0 0] 203))) w2:=by
  obtain⟨pq,rfl⟩:=dD;exact below_regrown _ _ _
 clear dD;have jK:=zk kH aP;have bC:Ok I w2:=kw.below (Qn _) aP;have qw:=Qh (vM.q.aX aP);have bS:Below w.heap.size w w2:=(aO.alloc (by have:=aO.size;omega) (.cells #[.pointer none,.slice none 0 0] 203)).trans (aP.mono (by simp;omega));have fw:w1.heap.size≤w2.heap.size:=by have:=aP.size;simp at this;omega
 clear e4 e5 e6 c4 c5 c6 aP lX vM kH aS kw aO H1 H2 H3 H4;go_wp2_with fail
 refine(Tryz.Builder_WriteString w1.heap.size w1.heap.size _ _ _ jK (by rw[ByteArray.size_mk',List.size_toArray];simp[Lib.byteCells];omega) (by omega)).mono ?_;rintro e7 w7 ⟨rfl,pX,ji⟩;have sG:=pX.lt;have vL:=Qh (Kq (z:=mi e 0) pX (by rw[←Hz.q];simp));have gT:Ok I w7:=bC.of_block fun b c hb=>ji.block b (Nat.lt_of_not_le fun h=>by rw[lU b h]at hb;cases hb);have H8:=Qh (qw.q.far ji bW);have lF:=bS.trans (ji.mono (Nat.le_of_lt bW));clear jK pX ji bS bC qw vv fw;obtain⟨c0,c1,c2,c3,c4,c5,c6⟩:=H8.q;go_wp2_with fail
 clear c0 c1 c2 c3 c4 c5 c6;go_loopw [36] (fun Ro wr=> ∃k:Nat,k≤e.aD.length∧Ro= .int .i64 k∧Lib.IsBuilder 203 5 w1.heap.size w1.heap.size (Lib.byteCells (mi e k)) wr∧Ok I wr∧Below w.heap.size w wr∧w1.heap.size<wr.heap.size) (fun i _=>e.aD.length-(intOf i).toNat)
 case atStart=>exact⟨0,Nat.zero_le _,rfl,vL.q,gT,lF,sG⟩
 case round=>
  clear vL H8 lF gT sG;obtain⟨k,hk,rfl,oh,gZ,hb,cu⟩:=hrel;have oU:=Qh oh;clear oh;have wB:=Hl.q k;by_cases hlt:k<e.aD.length
  ·obtain⟨x,b,off,cap',dz,dC,c0,c1,c2⟩:=tZ Hv.q gZ k hlt;cases dC;obtain⟨y0,y1,y2,y3,y4,y5⟩:=Pf.q x (by rw[←dz];exact List.getElem_mem hlt);have bT:=Qh (Xoe hlt dz);have CP:=yE (n:=x.s) (by omega) (by omega);have I4:=yE (n:=x.o) (by omega) (by omega);have xN:=yE (n:=x.n) (by omega) (by omega);have H1:=Qh (fun w hw=>G8 I hI x.s (by omega) (by omega) w hw);have H2:=Qh (fun w hw=>G8 I hI x.o (by omega) (by omega) w hw);have H3:=Qh (fun w hw=>G8 I hI x.n (by omega) (by omega) w hw);have Kr:Ok I (wr.alloc (.cells #[.int .i64 x.s,.int .i64 x.o,.int .i64 x.n] 109)):=gZ.alloc _;have g0:=cell_regrown (show(wr.alloc (.cells #[.int .i64 x.s,.int .i64 x.o,.int .i64 x.n] 109)).cell? ⟨wr.heap.size,0,none⟩=some (.int .i64 x.s) by simp);have g1:=cell_regrown (show(wr.alloc (.cells #[.int .i64 x.s,.int .i64 x.o,.int .i64 x.n] 109)).cell? ⟨wr.heap.size,1,none⟩=some (.int .i64 x.o) by simp);have g2:=cell_regrown (show(wr.alloc (.cells #[.int .i64 x.s,.int .i64 x.o,.int .i64 x.n] 109)).cell? ⟨wr.heap.size,2,none⟩=some (.int .i64 x.n) by simp);clear dz;generalize dZ x.s=q1 at bT CP H1;generalize dZ x.o=q2 at bT I4 H2;generalize dZ x.n=q3 at bT xN H3;generalize mi e k=u at bT wB oU;go_wp2_with fail
   refine Pw 11 (by kernel_rfl) (by kernel_rfl) ?_;simp only[List.take_succ_cons,List.take_zero,List.drop_succ_cons,List.drop_zero];repeat(go_big_quiet_step ((with_reducible first|exact Calls.regrown_of (H1.q _ (Kr.below (Qn _) (below_regrown _ _ _)))|exact Calls.regrown_of (H2.q _ (Kr.below (Qn _) (below_regrown _ _ _)))|exact Calls.regrown_of (H3.q _ (Kr.below (Qn _) (below_regrown _ _ _))))))
   refine wpQuiet_nil ?_;intro w2 dD;have aP:Below ((wr.alloc (.cells #[.int .i64 x.s,.int .i64 x.o,.int .i64 x.n] 109))).heap.size ((wr.alloc (.cells #[.int .i64 x.s,.int .i64 x.o,.int .i64 x.n] 109))) w2:=by
    obtain⟨pq,rfl⟩:=dD;exact below_regrown _ _ _
   clear dD;have jK:=zk (Xhx oU.q _) aP;have bC:Ok I w2:=Kr.below (Qn _) aP;have bS:Below w.heap.size w w2:=(hb.alloc hb.size (.cells #[.int .i64 x.s,.int .i64 x.o,.int .i64 x.n] 109)).trans (aP.mono (by have:=hb.size;simp;omega));have fw:w1.heap.size≤w2.heap.size:=by have:=aP.size;simp at this;omega
   clear g0 g1 g2 aP Kr oU c0 c1 c2 H1 H2 H3;go_wp2_with fail
   refine(Tryz.Builder_WriteString w1.heap.size w1.heap.size _ _ _ jK (by rw[ByteArray.size_mk',List.size_toArray];simp[Lib.byteCells];omega) (by omega)).mono ?_;rintro e7 w7 ⟨rfl,pX,ji⟩;have sG:=pX.lt;have vL:=Qh (Kq (z:=mi e (k+1)) pX (by rw[bT.q];simp));have gT:Ok I w7:=bC.of_block fun b c hb=>ji.block b (Nat.lt_of_not_le fun h=>by rw[lU b h]at hb;cases hb);have lF:=bS.trans (ji.mono (Nat.le_of_lt bW));clear jK pX ji bS bC;go_wp2;go_roundw;case rel=>exact⟨k+1,by omega,by go_num,vL.q,gT,lF,sG⟩
   case measure=>simp[intOf];omega
  ·have Hn:=Qh (XV e (k:=k) (by omega));rw[Hn.q]at oU;go_wp2_with fail
   refine(Tryz.Builder_String_any w1.heap.size w1.heap.size _ _ oU.q (Nat.le_of_lt cu)).mono ?_;rintro e3 w4 ⟨rfl,bA⟩;go_wp2;go_ret2;exact⟨rfl,hb.trans (bA.mono (Nat.le_of_lt bW))⟩
abbrev kX(s:bu)(ve:Value):List Value:=[.int .i64 s.num,.int .i64 s.az,S s.bq,ve,S s.aV,S s.sl]
abbrev uG(s:bu)(ve:Value):Value:= .agg #[.int .i64 s.num,.int .i64 s.az,S s.bq,ve,S s.aV,S s.sl]
def iO:Ty bu where
 size:=6
 rd:=fun I cs s=> ∃ve,cs=kX s ve∧aY bJ I ve s.aB
 len:=fun⟨_,h,_⟩=>by rw[h];rfl
 one:=fun⟨ve,h,h1⟩ u hu=>by
  rw[h]at hu;simp at hu;rcases hu with rfl|rfl|rfl|rfl|rfl|rfl<;>first|rfl|exact h1.one
 mono:=fun hI ⟨ve,h,h1⟩=>⟨ve,h,h1.mono hI⟩
structure Kt (w:World) (b o:Nat) (s:bu) (ve:Value):Prop where
 c0:w.cell? ⟨b,o,none⟩=some (.int .i64 s.num)
 c1:w.cell? ⟨b,o+1,none⟩=some (.int .i64 s.az)
 c2:w.cell? ⟨b,o+2,none⟩=some (S s.bq)
 c3:w.cell? ⟨b,o+3,none⟩=some ve
 c4:w.cell? ⟨b,o+4,none⟩=some (S s.aV)
 c5:w.cell? ⟨b,o+5,none⟩=some (S s.sl)
structure jD (w:World) (n:Nat) (s:bu) (ve:Value):Prop where
 c0:w.cell? ⟨n,0,none⟩=some (.int .i64 s.num)
 c1:w.cell? ⟨n,1,none⟩=some (.int .i64 s.az)
 c2:w.cell? ⟨n,2,none⟩=some (S s.bq)
 c3:w.cell? ⟨n,3,none⟩=some ve
 c4:w.cell? ⟨n,4,none⟩=some (S s.aV)
 c5:w.cell? ⟨n,5,none⟩=some (S s.sl)
theorem jD.aX(h:jD w b s ve)(hb:Below w.heap.size w w'):jD w' b s ve:=
 ⟨bI hb h.c0,bI hb h.c1,bI hb h.c2,bI hb h.c3,bI hb h.c4,bI hb h.c5⟩
theorem jD.past(h:jD w b s ve)(x:Obj):jD (w.alloc x) b s ve:=
 ⟨jH x h.c0,jH x h.c1,jH x h.c2,jH x h.c3,jH x h.c4,jH x h.c5⟩
theorem jD.far{B:Nat}(h:jD w b s ve)(hb:Below B w w')(hn:b<B):jD w' b s ve:=
 ⟨(hb.cell hn).trans h.c0,(hb.cell hn).trans h.c1,(hb.cell hn).trans h.c2,(hb.cell hn).trans h.c3,(hb.cell hn).trans h.c4,(hb.cell hn).trans h.c5⟩
theorem Ku{W:World}{t:TypeId}{n:Nat}(hn:n=W.heap.size)(hb:Below (W.alloc (.cells #[.int .i64 s.num,.int .i64 s.az,S s.bq,ve,S s.aV,S s.sl] t)).heap.size (W.alloc (.cells #[.int .i64 s.num,.int .i64 s.az,S s.bq,ve,S s.aV,S s.sl] t)) w'):jD w' n s ve:=by
 subst hn;exact jD.aX ⟨by simp,by simp,by simp,by simp,by simp,by simp⟩ hb
theorem Kv{l:List bu}(h:aY iO I v l)(hw:Ok I w)(i:Nat)(hi:i<l.length):∃x ve b off cap,l[i]=x∧v= .slice (some ⟨b,off,none⟩) l.length cap∧
 Kt w b (off+i*6) x ve∧aY bJ I ve x.aB:=by
 obtain⟨b,off,cap,cs,hv,⟨ve,fK,h1⟩,hc⟩:=h.at_ hw hi;subst fK;exact⟨_,ve,b,off,cap,rfl,hv,⟨hc 0 _ rfl,hc 1 _ rfl,hc 2 _ rfl,hc 3 _ rfl,hc 4 _ rfl,hc 5 _ rfl⟩,h1⟩
structure afH (s:bu):Prop where
 wN:s.aB.length≤30
 aV:s.aV.length≤1000
 bq:s.bq.length≤100
 sl:s.sl.length≤2100
 wf:∀e∈s.aB,e.Wf
 ag:∀e∈s.aB,e.ag.length≤300
 av:∀e∈s.aB,e.av.length≤300
 aD:∀e∈s.aB,e.aD.length≤30
 num: -9223372036854775808≤s.num∧s.num≤9223372036854775807
 az: -9223372036854775808≤s.az∧s.az≤9223372036854775807
def mo(s:bu)(k:Nat):af:=ny s++(s.aB.take k).flatMap uC
theorem Xnd(hk:k<s.aB.length){x:aQ}(hx:s.aB[k]=x):mo s (k+1)=mo s k++uC x:=by
 rw[mo,mo,List.take_succ_eq_append_getElem hk,hx,List.flatMap_append,←List.append_assoc];simp
theorem Xpm(s:bu)(h:s.aB.length≤k):mo s k=jY s:=by rw[mo,List.take_of_length_le h];rfl
theorem Ia(s:af):(dA s).length≤32:=by
 unfold dA;rw[List.length_map];exact XN _ 8
theorem Yk:∀{l:List aQ},(∀e∈l,oC e∧e.aD.length≤1000)→(l.flatMap uC).length≤54000*l.length
 | [],_=>by simp
 |e::l,h=>by
  have h1:=XY (h e (List.mem_cons_self ..)).1 (h e (List.mem_cons_self ..)).2;have h2:=Yk fun x hx=>h x (List.mem_cons_of_mem _ hx);simp only[List.flatMap_cons,List.length_append,List.length_cons];omega
def AP(h:Nat)(b:UInt8):Nat:=(2*h+40503*(b.toNat+1))%65536
def fO:af→Nat→Nat→Nat
 | [],i,_=>i
 |b::r,i,h=>if i+1=96∨(16≤i+1∧AP h b<2048)then i+1 else fO r (i+1) (AP h b)
def gL(s:af):Nat:=fO s 0 0
theorem Rp:∀(r:af) (i h:Nat),i≤fO r i h∧fO r i h≤i+r.length
 | [],i,h=>⟨Qn _,by simp[fO]⟩
 |b::r,i,h=>by
  have:=Rp r (i+1) (AP h b);rw[fO,List.length_cons];split<;>omega
theorem Xmf(b:UInt8)(r:af)(i h:Nat):i<fO (b::r) i h:=by
 have:=(Rp r (i+1) (AP h b)).1;rw[fO];split<;>omega
theorem NU{s:af}(h:s≠[]):0<gL s:=by
 cases s with
 |nil=>exact absurd rfl h
 |cons b r=>exact Xmf b r 0 0
theorem Yl(s:af):gL s≤s.length:=by have:=(Rp s 0 0).2;unfold gL;omega
def iP:Nat→af→List af
 |0,_=> []
 |n+1,s=>if s=[]then []else s.take (gL s)::iP n (s.drop (gL s))
def bN(s:af):List af:=iP s.length s
theorem Ym:∀(n m:Nat) (s:af),s.length≤n→s.length≤m→iP n s=iP m s
 |0,m,s,h,_=>by
  have:s=[]:=List.eq_nil_of_length_eq_zero (by omega);subst this;cases m<;>simp[iP]
 |n+1,0,s,_,h=>by
  have:s=[]:=List.eq_nil_of_length_eq_zero (by omega);subst this;simp[iP]
 |n+1,m+1,s,h1,h2=>by
  rw[iP,iP];by_cases h0:s=[]
  ·rw[if_pos h0,if_pos h0]
  ·have hp:=NU h0;rw[if_neg h0,if_neg h0,Ym n m _ (by rw[List.length_drop];omega) (by rw[List.length_drop];omega)]
theorem Xmo:bN []=[]:=rfl
theorem Yn{s:af}(h:s≠[]):bN s=s.take (gL s)::bN (s.drop (gL s)):=by
 have hp:=NU h;have hl:0<s.length:=List.length_pos_iff.2 h;obtain⟨n,hn⟩:∃n,s.length=n+1:=⟨s.length-1,by omega⟩;unfold bN;rw[hn,iP,if_neg h,Ym n (s.drop (gL s)).length _ (by rw[List.length_drop];omega) (Qn _)]
theorem NV:∀(n:Nat) (s:af),s.length≤n→(bN s).flatten=s∧(∀c∈bN s,c≠[])∧(bN s).length≤s.length
 |0,s,h=>by
  have:s=[]:=List.eq_nil_of_length_eq_zero (by omega);subst this;exact⟨rfl,fun _ h=>(by cases h),Qn _⟩
 |n+1,s,h=>by
  by_cases h0:s=[]
  ·subst h0;exact⟨rfl,fun _ h=>(by cases h),Qn _⟩
  ·have hp:=NU h0;have hf:=Yl s;obtain⟨h1,h2,h3⟩:=NV n (s.drop (gL s)) (by rw[List.length_drop];omega);rw[List.length_drop]at h3;rw[Yn h0];refine⟨by rw[List.flatten_cons,h1,List.take_append_drop],fun c hc=> ?_,by rw[List.length_cons];omega⟩;rcases List.mem_cons.1 hc with rfl|hc
   ·intro e;have:=congrArg List.length e;rw[List.length_take]at this;simp at this;rcases this with h|h
    ·omega
    ·exact h0 h
   ·exact h2 c hc
theorem Yo(s:af):(bN s).flatten=s:=(NV _ s (Qn _)).1
theorem Xor{s:af}:∀c∈bN s,c≠[]:=(NV _ s (Qn _)).2.1
theorem Rq(s:af):(bN s).length≤s.length:=(NV _ s (Qn _)).2.2
structure Sg where
 n:Int
 d:af
def bV:af→Nat
 | []=>0
 |b::r=>if b=0 then bV r+1 else 0
theorem Rs:∀s:af,bV s≤s.length
 | []=>Qn _
 |b::r=>by
  have:=Rs r;rw[bV,List.length_cons];split<;>omega
def iD(d:af):List Sg:=if d=[]then []else [⟨0,d⟩]
def nA:Nat→af→af→List Sg
 |0,acc,_=>iD acc
 |f+1,acc,r=>
  if r=[]then iD acc
  else if 32≤bV r then iD acc++⟨(bV r:Nat),[]⟩::nA f [] (r.drop (bV r))
  else nA f (acc++r.take (max (bV r) 1)) (r.drop (max (bV r) 1))
def nW(acc r:af):List Sg:=nA r.length acc r
def gX(s:af):List Sg:=nW [] s
theorem NW:∀(n m:Nat) (acc r:af),r.length≤n→r.length≤m→nA n acc r=nA m acc r
 |0,m,acc,r,h,_=>by
  have:r=[]:=List.eq_nil_of_length_eq_zero (by omega);subst this;cases m<;>simp[nA]
 |n+1,0,acc,r,_,h=>by
  have:r=[]:=List.eq_nil_of_length_eq_zero (by omega);subst this;simp[nA]
 |n+1,m+1,acc,r,h1,h2=>by
  rw[nA,nA];by_cases h0:r=[]
  ·rw[if_pos h0,if_pos h0]
  ·have hl:0<r.length:=List.length_pos_iff.2 h0;rw[if_neg h0,if_neg h0];by_cases h3:32≤bV r
   ·rw[if_pos h3,if_pos h3,NW n m _ _ (by rw[List.length_drop];omega) (by rw[List.length_drop];omega)]
   ·rw[if_neg h3,if_neg h3,NW n m _ _ (by rw[List.length_drop];omega) (by rw[List.length_drop];omega)]
theorem Xrv(acc:af):nW acc []=iD acc:=rfl
theorem Xpo(h0:r≠[])(h:32≤bV r):nW acc r=iD acc++⟨(bV r:Nat),[]⟩::nW [] (r.drop (bV r)):=by
 have hl:0<r.length:=List.length_pos_iff.2 h0;obtain⟨n,hn⟩:∃n,r.length=n+1:=⟨r.length-1,by omega⟩;unfold nW;rw[hn,nA,if_neg h0,if_pos h,NW n _ _ _ (by rw[List.length_drop];omega) (Qn _)]
theorem Xpp(h0:r≠[])(h:¬32≤bV r):nW acc r=nW (acc++r.take (max (bV r) 1)) (r.drop (max (bV r) 1)):=by
 have hl:0<r.length:=List.length_pos_iff.2 h0;obtain⟨n,hn⟩:∃n,r.length=n+1:=⟨r.length-1,by omega⟩;unfold nW;rw[hn,nA,if_neg h0,if_neg h,NW n _ _ _ (by rw[List.length_drop];omega) (Qn _)]
def gm(l:List Sg):Nat:=(l.map fun g=>g.n.toNat+g.d.length).sum
theorem NY(g:Sg)(l:List Sg):gm (g::l)=g.n.toNat+g.d.length+gm l:=by simp[gm]
theorem Xib(a b:List Sg):gm (a++b)=gm a+gm b:=by simp[gm]
theorem Rt(d:af):gm (iD d)=d.length∧ ∀g∈iD d,(g.n=0∧g.d≠[])∨(0<g.n∧g.d=[]):=by
 unfold iD;split
 ·rename_i h;subst h;exact⟨rfl,fun _ h=>(by cases h)⟩
 ·rename_i h;refine⟨by simp[gm],fun g hg=> ?_⟩;simp at hg;subst hg;exact .inl ⟨rfl,h⟩
theorem NZ:∀(f:Nat) (acc r:af),r.length≤f→gm (nA f acc r)=acc.length+r.length∧ ∀g∈nA f acc r,(g.n=0∧g.d≠[])∨(0<g.n∧g.d=[])
 |0,acc,r,h=>by
  have:r=[]:=List.eq_nil_of_length_eq_zero (by omega);subst this;exact Rt acc
 |f+1,acc,r,h=>by
  rw[nA];by_cases h0:r=[]
  ·subst h0;rw[if_pos rfl];exact Rt acc
  ·have hl:0<r.length:=List.length_pos_iff.2 h0;have hz:=Rs r;rw[if_neg h0];by_cases h3:32≤bV r
   ·rw[if_pos h3];obtain⟨h1,h2⟩:=NZ f [] (r.drop (bV r)) (by rw[List.length_drop];omega);obtain⟨d1,d2⟩:=Rt acc;rw[List.length_drop]at h1;refine⟨by rw[Xib,NY,h1,d1];simp;omega,fun g hg=> ?_⟩;rcases List.mem_append.1 hg with hg|hg
    ·exact d2 g hg
    ·rcases List.mem_cons.1 hg with rfl|hg
     ·exact .inr ⟨by show(0:Int)<(bV r:Nat);omega,rfl⟩
     ·exact h2 g hg
   ·rw[if_neg h3];obtain⟨h1,h2⟩:=NZ f (acc++r.take (max (bV r) 1)) (r.drop (max (bV r) 1)) (by rw[List.length_drop];omega);refine⟨by rw[h1];simp;omega,h2⟩
theorem N7(s:af):gm (gX s)=s.length:=by
 have:=(NZ s.length [] s (Qn _)).1;simpa[gX,nW]using this
theorem Ru{s:af}:∀g∈gX s,(g.n=0∧g.d≠[])∨(0<g.n∧g.d=[]):=(NZ s.length [] s (Qn _)).2
theorem Yp:∀{l:List Sg},(∀g∈l,(g.n=0∧g.d≠[])∨(0<g.n∧g.d=[]))→l.length≤gm l
 | [],_=>Qn _
 |g::l,h=>by
  have h1:=h g (List.mem_cons_self ..);have h2:=Yp (l:=l) fun x hx=>h x (List.mem_cons_of_mem _ hx);rw[NY,List.length_cons];rcases h1 with⟨_,h1⟩|⟨h1,_⟩
  ·have:=List.length_pos_iff.2 h1;omega
  ·omega
theorem Yq(s:af):(gX s).length≤s.length:=by rw[←N7 s];exact Yp Ru
structure Ck where
 d:af
 x:Xt
structure dX where
 aM:List Ck
 aW:Int
 str:af
def eP:List Ck→af→Option Xt
 | [],_=>none
 |c::l,d=>if c.d=d then some c.x else eP l d
def iE(l:List Xt)(x:Xt):List Xt:=
 match l.getLast? with
 |none=> [x]
 |some y=>if x.s≠0∧y.s=x.s∧y.o+y.n=x.o then l.dropLast++[⟨y.s,y.o,y.n+x.n⟩]else l++[x]
def jO(S:dX)(c:af):Xt:=⟨S.aW,(S.str.length:Nat),(c.length:Nat)⟩
def BP(S:dX)(c:af):dX×Xt:=
 match eP S.aM (dA c)with
 |some x=>(S,x)
 |none=>(⟨S.aM++[⟨dA c,jO S c⟩],S.aW,S.str++c⟩,jO S c)
def nX(p:dX×List Xt)(c:af):dX×List Xt:=((BP p.1 c).1,iE p.2 (BP p.1 c).2)
def lG(p:dX×List Xt)(g:Sg):dX×List Xt:=if g.d=[]then(p.1,iE p.2 ⟨0,0,g.n⟩)else(bN g.d).foldl nX p
def jE(S:dX)(c:af):dX×List Xt×Int:=
 if S.aW<1∨255<S.aW then(S,[],1)else if 65536<c.length then(S,[],6)
 else(((gX c).foldl lG (S,[])).1,((gX c).foldl lG (S,[])).2,0)
def gG(S:dX)(n:Int):dX×Int:=if n<1∨255<n then(S,2)else if n≤S.aW then(S,14)else(⟨S.aM,n,[]⟩,0)
def sH(st:List af)(x:Xt):Bool:=decide (x.n<0) || decide (x.o<0) || decide (x.s<0) || decide ((st.length:Int)<x.s) || (x.s==0&&x.o !=0)
def iI(st:List af)(x:Xt):af:=st.getD (x.s-1).toNat []
def jP(st:List af):List Xt→af→af×Int
 | [],out=>(out,0)
 |x::r,out=>
  if sH st x=true then([],2)
  else if 0<x.s∧(((iI st x).length:Int)<x.o∨((iI st x).length:Int)-x.o<x.n)then([],2)
  else if 65536-(out.length:Int)<x.n then([],6)
  else jP st r (out++if x.s=0 then List.replicate x.n.toNat 0 else((iI st x).drop x.o.toNat).take x.n.toNat)
def qQ(st:List af)(l:List Xt):af×Int:=jP st l []
theorem Yr(l:List Xt)(x:Xt):(iE l x).length≤l.length+1∧0<(iE l x).length:=by
 unfold iE;split
 ·simp
 ·rename_i y hy;have hl:0<l.length:=by cases l with
   |nil=>simp at hy
   |cons a l=>simp
  split<;>simp<;>omega
theorem Kw{α:Type}{T:Ty α}{P:Program}{ts te:TypeId}{bytes:Nat}(hE:dx P ts te T bytes){w0:World}{ops:Array Oper}{rest:List Oper}{o:Oper}{a:Act}{Q:Exit→Act→World→Prop}(yf:o.guard=none)(s x:Operand)
 (ho:o.op= .call {callee:= .builtin .append,args:=#[s,x],argTypes:=#[ts,ts]}) (B:Nat) (v:Value) (l:List α) (hs:a.eval s=v) (bM:aN T te I w0 B v l)
 (y:α) (cs:List Value) (tb:TypeId) (hx:a.eval x= .slice (some ⟨w0.heap.size,0,none⟩) 1 1) (hy:T.rd I cs y) (eU:(l.length+1)*bytes≤140737488355328) (hl:l.length+1≤9223372036854775807) (hB:B≤w0.heap.size)
 (h:∀v' w',aN T te I w' B v' (l++[y])→w0.grownBy w' v.ownBlock→(∀g,v'.ownBlock=some g→v.ownBlock=some g∨w0.heap.size≤g)→wpList P ops Q rest (a.put o.dst v') w'):wpList P ops Q (o::rest) a (w0.alloc (.cells cs.toArray tb)):=by
 obtain⟨i,z,h1,h2,h3,h4,h5,h6,h7⟩:=hE;obtain⟨xs,k1,k2⟩:=bM
 refine wpList_append_own_at (w0.alloc (.cells cs.toArray tb)) yf s x ts ho B te i z T.size bytes h1 h2 h3 h4 h5 h6 h7 v l.length xs hs (k1.alloc _) ⟨w0.heap.size,0,none⟩ 1 1 cs hx (by rw[T.len hy,Nat.one_mul])
  (fun j u hu=>by rw[Addr.add_lit,Nat.zero_add,World.cell?_alloc_new];simpa using hu) (T.one hy) (by unfold maxLen;omega) eU (by simp;omega) (fun v' w' r1 r2 _ r4=>h v' w' ⟨xs++cs,by rw[List.length_append];exact r1,k2.append (bB.one hy)⟩ ?_ ?_)
 ·exact⟨r2.os,r2.tape,r2.output,by have:=r2.size;simp at this;omega,fun k hk aZ=>(r2.block k (by simp;omega) aZ).trans (Below.heap_alloc _ _ _ hk)⟩
 ·intro g hg;rcases r4 with r4|r4
  ·exact .inl (r4▸hg)
  ·rw[r4]at hg;simp at hg;exact .inr (by omega)
theorem Ky(hb:Below w.heap.size w w')(row:Option Nat):w.grownBy w' row:=⟨hb.os,hb.tape,hb.output,hb.size,fun k hk _=>hb.block k hk⟩
theorem N8{w1 w2:World}{row:Option Nat}(h1:w.grownBy w1 row)(h2:w1.grownBy w2 row):w.grownBy w2 row:=
 ⟨h2.os.trans h1.os,h2.tape.trans h1.tape,h2.output.trans h1.output,Nat.le_trans h1.size h2.size,fun k hk aZ=>(h2.block k (Nat.lt_of_lt_of_le hk h1.size) aZ).trans (h1.block k hk aZ)⟩
def XB(n:Int)(x:Xt):Prop:=0≤x.s∧x.s≤255∧0≤x.o∧x.o≤1099511627776∧0≤x.n∧x.n≤n
theorem XB.mono(h:XB n x)(hm:n≤m):XB m x:=by unfold XB at*;omega
section
variable {I:IH} {W:World} {B:Nat} {v:Value} {l:List Xt}
theorem Yt(h:aN kQ 109 I W B v l)(h0:0<l.length):∃g cap y,v= .slice (some ⟨g,0,none⟩) l.length cap∧l.length≤cap∧l.getLast?=some y∧B≤g∧g<W.heap.size∧
 W.cell? ⟨g,(l.length-1)*3,none⟩=some (.int .i64 y.s)∧W.cell? ⟨g,(l.length-1)*3+1,none⟩=some (.int .i64 y.o)∧W.cell? ⟨g,(l.length-1)*3+2,none⟩=some (.int .i64 y.n)∧(∀j,W.frozen? ⟨g,j,none⟩=false):=by
 obtain⟨xs,h1,h2⟩:=h;rcases h1.2 with⟨_,hz⟩|⟨g,cap,cur,hv,hb,hg,Bg,_⟩
 ·omega
 subst hv;have hlt:g<W.heap.size:=(Qg hg);have mI:xs.length=l.length*3:=h2.1;have hi:l.length-1<l.length:=by omega
 obtain⟨cs,k1,k2⟩:=h2.2 (l.length-1) hi;have k1':cs=[.int .i64 (l[l.length-1]).s,.int .i64 (l[l.length-1]).o,.int .i64 (l[l.length-1]).n]:=k1;subst k1';refine⟨g,cap,l[l.length-1],rfl,Bg,by rw[List.getLast?_eq_getElem?,List.getElem?_eq_getElem hi],hb,hlt,?_,?_,?_,fun j=>h1.frozenAt j⟩
 ·rw[h1.cellAt _ (by show(l.length-1)*3<l.length*3;omega)];exact k2 0 _ rfl
 ·rw[h1.cellAt _ (by show(l.length-1)*3+1<l.length*3;omega)];exact k2 1 _ rfl
 ·rw[h1.cellAt _ (by show(l.length-1)*3+2<l.length*3;omega)];exact k2 2 _ rfl
theorem Xpz{g cap:Nat}(h:aN kQ 109 I W B (.slice (some ⟨g,0,none⟩) l.length cap) l)(hy:l.getLast?=some y):
 aN kQ 109 I (W.setCell ⟨g,(l.length-1)*3+2,none⟩ (.int .i64 n)) B (.slice (some ⟨g,0,none⟩) l.length cap) (l.dropLast++[⟨y.s,y.o,n⟩]):=by
 obtain⟨xs,h1,h2⟩:=h;have h0:0<l.length:=by cases l with
  |nil=>simp at hy
  |cons a l=>simp
 have hl:(l.dropLast++[(⟨y.s,y.o,n⟩:Xt)]).length=l.length:=by simp;omega
 have hs:=(h1.stored ((l.length-1)*3+2) (.int .i64 n)).1;refine⟨_,by rw[hl];exact hs,by rw[hl,List.length_set];exact h2.1,fun i hi=> ?_⟩;rw[hl]at hi;obtain⟨cs,k1,k2⟩:=h2.2 i hi;by_cases he:i=l.length-1
 ·have UW:l[i]=y:=by
   have:l.getLast?=some l[i]:=by rw[List.getLast?_eq_getElem?,←he,List.getElem?_eq_getElem hi]
   rw[hy]at this;exact(Option.some.inj this).symm
  have k1':cs=[.int .i64 (l[i]).s,.int .i64 (l[i]).o,.int .i64 (l[i]).n]:=k1;rw[UW]at k1';subst k1';refine⟨[.int .i64 y.s,.int .i64 y.o,.int .i64 n],?_,fun j u hu=> ?_⟩
  ·show _=_;rw[List.getElem_append_right (by simp;omega)];simp
  ·have mI:xs.length=l.length*3:=h2.1;match j,hu with
   |0,hu=>
    rw[List.getElem?_set_ne (by show(l.length-1)*3+2≠i*3+0;omega)];exact(k2 0 _ rfl).trans hu
   |1,hu=>
    rw[List.getElem?_set_ne (by show(l.length-1)*3+2≠i*3+1;omega)];exact(k2 1 _ rfl).trans hu
   |2,hu=>
    have e:i*kQ.size+2=(l.length-1)*3+2:=by show i*3+2=_;omega
    rw[e,List.getElem?_set_self (by omega)];exact hu
 ·refine⟨cs,?_,fun j u hu=> ?_⟩
  ·rw[List.getElem_append_left (by simp;omega),List.getElem_dropLast];exact k1
  ·have hj:j<3:=by rw[←show cs.length=3 from kQ.len k1];exact(List.getElem?_eq_some_iff.1 hu).1
   rw[List.getElem?_set_ne (by show(l.length-1)*3+2≠i*3+j;omega)];exact k2 j u hu
end
abbrev EX(x:Xt):Value:= .agg #[.int .i64 x.s,.int .i64 x.o,.int .i64 x.n]
abbrev N9(x:Xt):List Value:=[.int .i64 x.s,.int .i64 x.o,.int .i64 x.n]
theorem Xra:(Tryz.prog.info? 109).map (fun i=>(i.zero,i.size,i.bytes))=some (some (.agg #[.int .i64 0,.int .i64 0,.int .i64 0]),3,24):=by kernel_rfl
theorem Oa:dx Tryz.prog 79 109 kQ 24:=dx.of Tryz.underlying79 Xra rfl (by decide) rfl
theorem Yu(x:Xt):iE [] x=[x]:=rfl
theorem Yv(h:l.getLast?=some y)(hn:¬(x.s≠0∧y.s=x.s∧y.o+y.n=x.o)):iE l x=l++[x]:=by
 unfold iE;rw[h];show(if _ then _ else _)=_;rw[if_neg hn]
theorem Yw(h:l.getLast?=some y)(hn:x.s≠0∧y.s=x.s∧y.o+y.n=x.o):iE l x=l.dropLast++[⟨y.s,y.o,y.n+x.n⟩]:=by
 unfold iE;rw[h];show(if _ then _ else _)=_;rw[if_pos hn]
theorem Yx(h:l.getLast?=some y):y∈l:=List.mem_of_getLast? h
theorem Yy(hm:0≤m)(hl:∀z∈l,XB n z)(hx:XB m x)(hn:0≤n):∀z∈iE l x,XB (n+m) z:=by
 intro z hz;cases hg:l.getLast? with
 |none=>
  have:l=[]:=List.getLast?_eq_none_iff.1 hg;subst this;rw[Yu]at hz;simp at hz;subst hz;exact hx.mono (by omega)
 |some y=>
  have hy:=hl y (Yx hg);by_cases hc:x.s≠0∧y.s=x.s∧y.o+y.n=x.o
  ·rw[Yw hg hc]at hz;rcases List.mem_append.1 hz with hz|hz
   ·exact(hl z (List.dropLast_subset _ hz)).mono (by omega)
   ·simp at hz;subst hz;unfold XB at*;simp only;omega
  ·rw[Yv hg hc]at hz;rcases List.mem_append.1 hz with hz|hz
   ·exact(hl z hz).mono (by omega)
   ·simp at hz;subst hz;exact hx.mono (by omega)
def afT(I:IH)(B:Nat)(w:World)(v:Value)(l:List Xt)(e:Ending)(w':World):Prop:=
 ∃v',e= .returned v'∧aN kQ 109 I w' B v' l∧w.grownBy w' v.ownBlock∧ ∀g,v'.ownBlock=some g→v.ownBlock=some g∨w.heap.size≤g
theorem Xke{s:af}{h:Nat}(hk:k<s.length){N:Nat}(hr:fO (s.drop k) k h=N):(if k+1=96∨(16≤k+1∧AP h (s.getD k 0)<2048)then k+1 else fO (s.drop (k+1)) (k+1) (AP h (s.getD k 0)))=N:=by
 rw[List.drop_eq_getElem_cons hk,fO]at hr;rw[←hr];simp[List.getD,hk]
theorem Xtg(h:Nat)(b:UInt8):AP h b<65536:=Nat.mod_lt _ (by decide)
theorem Xss(h:Nat)(b:UInt8):((2*(h:Int)+40503*((b.toNat:Int)+1))%65536)=((AP h b:Nat):Int):=by unfold AP;omega
def EY:Ty Sg:=Ty.flat 2 (fun x=> [.int .i64 x.n,S x.d]) (fun _=>rfl) (fun _ u h=>by simp at h;rcases h with rfl|rfl<;>rfl)
theorem Xru:(Tryz.prog.info? 168).map (fun i=>(i.zero,i.size,i.bytes))=some (some (.agg #[.int .i64 0,.string ⟨#[]⟩]),2,24):=by kernel_rfl
theorem Ob:dx Tryz.prog 165 168 EY 24:=dx.of Tryz.underlying165 Xru rfl (by decide) rfl
theorem Rv{l:List Sg}(h:aY EY I v l)(hw:Ok I w)(i:Nat)(hi:i<l.length):∃x b off cap,l[i]=x∧v= .slice (some ⟨b,off,none⟩) l.length cap∧
 w.cell? ⟨b,off+i*2,none⟩=some (.int .i64 x.n)∧w.cell? ⟨b,off+i*2+1,none⟩=some (S x.d):=by
 obtain⟨b,off,cap,cs,hv,fK,hc⟩:=h.at_ hw hi;have iw:cs=[.int .i64 l[i].n,S l[i].d]:=fK;subst iw;exact⟨_,b,off,cap,rfl,hv,hc 0 _ rfl,hc 1 _ rfl⟩
