/- Lemmas for the claim's theorem;conditions: as each says. -/
import Derived.Test.YtmdfjnhfhidmhaaGreatDoorQ37
set_option maxHeartbeats 0
set_option maxRecDepth 100000
set_option linter.all false
namespace Go.Proofs.YtmdfjnhfhidmhaaGreatDoor
open Go.RowKit
variable{L:List bu}{d:fP}{az:Int}{l:List gy}{n:Nat}{I J:IH}{W:World}{d0:fP}{k m:Nat}{w0:World}{ai dt sp:Int}{W':World}{B:Nat}{α:Type}{T:Ty α}{g:Nat}
def D9(I:IH)(w:World)(ai dt sp:Int)(p:List bu×Nat×Int)(e:Ending)(w':World):Prop:=
 ∃vs J,e= .returned (.tuple #[ed ai dt sp vs,.int .i64 p.2.1,.int .i64 p.2.2])∧Below w.heap.size w w'∧Ext w.heap.size I J∧Ok J w'∧aY iO J vs p.1
theorem Xo5(hk:k<l.length){c:gy}(hc:l[k]=c)(h:dU d0 0 l=dU d k (l.drop k)):
 ((gp d c).2≠0→dU d0 0 l=(d,k,(gp d c).2))∧((gp d c).2=0→dU d0 0 l=dU (gp d c).1 (k+1) (l.drop (k+1))):=by
 rw[List.drop_eq_getElem_cons hk,hc,dU]at h;exact⟨fun h0=>by rw[h,if_pos h0],fun h0=>by rw[h,if_neg (by rw[h0];simp)]⟩
theorem Xq2(h:dU d0 0 l=dU d l.length (l.drop l.length)):dU d0 0 l=(d,l.length,0):=by
 rw[List.drop_length]at h;exact h
theorem Xrb(l:List gy)(h:bX L az≠0):lI L az l=(L,0,bX L az):=by unfold lI;rw[if_pos h]
theorem Xrc{r:Int}(h:bX L az=0)(h0:r≠0)(ha:dU (eQ L az) 0 l=(d,k,r)):lI L az l=(L,k,r):=by
 unfold lI;rw[if_neg (by rw[h];simp),ha,if_pos h0]
theorem Xs7(h:bX L az=0)(ha:dU (eQ L az) 0 l=(d,l.length,0)):lI L az l=(L++[dI d],l.length,0):=by
 unfold lI;rw[if_neg (by rw[h];simp),ha,if_neg (by simp)]
theorem Xrd(hA:cO n m L)(hn:n+l.length≤60000)(hm:m≤250)(hc:∀c∈l,c.aF.length≤1000)(h:bX L az=0)(ha:dU (eQ L az) 0 l=(d,l.length,0)):
 uK L (dI d)=(L++[dI d],0):=by
 have h1:=Sl (L:=L) (l:=l) (n:=n) (d:=eQ L az) 0 (Sk hA (by omega) (by omega) h) hn (Zj L h) hc;rw[ha]at h1;have hl:=hA.len;unfold uK;rw[Xtk (by omega) h1.2.1];rfl
theorem Xov(h:bX L az=0):oK L az=(eQ L az,0):=by unfold oK;rw[if_neg (by rw[h];simp)]
theorem Xlr(h:bX L az≠0):oK L az=(xS,bX L az):=by unfold oK;rw[if_pos h]
theorem tQ.wr{vs:Value}{zr:Array Value}{ty:TypeId}{J':IH}(h:tQ I w0 ai dt sp vs (w0.heap.size+1) zr ty J W)(hb:Below B W W')(hB:w0.heap.size+1<B)(mG:B≤W.heap.size)(hx:Ext W.heap.size J J')(iU:Ok J' W'):
 tQ I w0 ai dt sp vs (w0.heap.size+1) zr ty J' W':=
 ⟨⟨iU,fun b c hc=>hx.keep h.at_.ok (Qn _) b c (h.at_.keep b c hc),h.at_.eD.trans (hb.mono (by omega))⟩,h.ext.trans hx h.at_.size,(hx _ (by omega)).trans h.xk,
   (hb.cell (by show w0.heap.size<B;omega)).trans h.a0,(hb.cell (by show w0.heap.size<B;omega)).trans h.a1,(hb.cell (by show w0.heap.size<B;omega)).trans h.a2,(hb.cell (by show w0.heap.size<B;omega)).trans h.a3,
   (hb.block _ hB).trans h.q⟩
abbrev Ea(B:Nat)(ai dt sp:Int)(so:Option Addr)(sc:Nat)(L L2:List bu)(d:fP)(ve vk vt vh:Value)(x:(Option Addr×Nat)×(Option Addr×Nat)×Nat):List (Option Tmp×Value):=
 [(some 49,ed ai dt sp (.slice so L.length sc)),(some 50,.func (.func 100) #[] #[.pointer (some ⟨B,0,none⟩)]),(some 51,kD d ve vk vt vh),(some 52,uG (dI d) (.slice x.1.1 (dI d).aB.length x.1.2)),(some 53,.tuple #[ed ai dt sp (.slice x.2.1.1 L2.length x.2.1.2),.int .i64 0]),(some 48,.tuple #[ed ai dt sp (.slice x.2.1.1 L2.length x.2.1.2),.int .i64 0]),(some 54,ed ai dt sp (.slice x.2.1.1 L2.length x.2.1.2)),(some 55,.int .i64 0),(some 16,.pointer (some ⟨x.2.2,0,none⟩)),(none,undef),(some 10,.int .i64 0)]
theorem Eb{so:Option Addr}{sc:Nat}{L2:List bu}{ve vk vt vh:Value}{x:(Option Addr×Nat)×(Option Addr×Nat)×Nat}:bE (Ea B ai dt sp so sc L L2 d ve vk vt vh x):=by
 unfold bE;simp
theorem Xkr(I:IH)(hI:cB I)(ai dt sp:Int)(L:List bu)(h:cO n m L)(l:List gy)(hn:n+l.length≤150)(hm:m≤250)(vs:Value)(je:aY iO I vs L)(az:Int)(vc:Value)(OU:aY xY I vc l)(hc:∀c∈l,c.Wf∧c.au.length≤1000000∧c.aF.length≤1000)(w:World)(hw:Ok I w):
 Calls Tryz.prog 27 #[ed ai dt sp vs,.int .i64 az,vc] w (D9 I w ai dt sp (lI L az l)):=by
 have hlen:=h.len;have HA:=Qh h;have HG:=Qh hI;have um:=Qh je;have Hvc:=Qh OU;have Hc:=Qh hc;have bU:=OU.bK;have Hbg:=Qh (fun w hw=>Xks I hI ai dt sp L h (by omega) hm vs je az w hw);have CF:=Qh (show(Tryz.prog.info? 63).map (·.size)=some 4 by kernel_rfl);obtain⟨so,sc,rfl,_,_,_⟩:=id je;obtain⟨co,cc,rfl,_,_,_⟩:=id OU;have M:=Qh (Xjl hw ai dt sp (.slice so L.length sc) eT 63);clear h hI je OU hc;obtain⟨W2,mH⟩:∃W2,((w.alloc (.cells #[.int .u32 ai,.int .i64 dt,.int .i64 sp,.slice so L.length sc] 63)).alloc (.cells eT 63))=W2:=⟨_,rfl⟩;rw[mH]at M;obtain⟨z0,z1,z2,z3⟩:=(⟨M.q.a0,M.q.a1,M.q.a2,M.q.a3⟩:_∧_∧_∧_);go_enter Tryz.func27,Tryz.ntmps27
 go_wp2_with fail
 clear mH;refine(Hbg.q W2 M.q.at_.ok).mono ?_;rintro e1 w1 ⟨ve,vk,vt,vh,J1,rfl,aG,kM,aS,Jg⟩;obtain⟨ae,ce,rfl,_,_,_⟩:=id Jg.aB;obtain⟨ak,ck,rfl,_,_,_⟩:=id Jg.aM;obtain⟨at',ct,rfl,_,_,_⟩:=id Jg.aK;obtain⟨ah,ch,rfl,_,_,_⟩:=id Jg.aC;have M1:=Qh (M.q.aX aG kM aS);have xL:=Qh Jg;obtain⟨dB,eB,F3⟩:∃dB eB,oK L az=(dB,eB):=⟨_,_,rfl⟩;rw[F3]at xL ⊢;dsimp only at xL ⊢;have OO:J1 w1.heap.size=none:=aS.fresh (Qn _);have CP:=M1.q.lt;have OV:=Qh F3;clear Jg aG kM aS M z0 z1 z2 z3 Hbg F3
 go_upto_region 2 with(
                        refine jy rfl rfl 43 _ _ rfl w1.heap.size 0 (fB dB (.slice ae dB.aB.length ce) (.slice ak dB.bL.aM.length ck) (.slice at' dB.aK.length ct) (.slice ah dB.aC.length ch)) (kD dB (.slice ae dB.aB.length ce) (.slice ak dB.bL.aM.length ck) (.slice at' dB.aK.length ct) (.slice ah dB.aC.length ch)) (by simp[Act.eval]) (by simp[Act.eval]) (by rfl) dJ 43 (heap_alloc_new _ _) (by simp) (by kernel_rfl) (by simp[Value.oneCell']) (fB dB (.slice ae dB.aB.length ce) (.slice ak dB.bL.aM.length ck) (.slice at' dB.aK.length ct) (.slice ah dB.aC.length ch)).toArray (by rfl) ?_;intro w2 qC iA)
 have aP:Below w1.heap.size w1 w2:=((Qb _ _).alloc (Qn _) _).grown qC (by simp) (fun k e=>by injection e with e;omega);have M2:=Qh (M1.q.quiet aP);have sQ:=(Qg iA);by_cases q:bX L az=0;case neg=>
  obtain⟨rfl,rfl⟩:=Prod.mk.inj (OV.q.symm.trans (Xlr q));have Hn:=Qh (Xrb l q);have i1:(bX L az !=0)=true:=by simpa using q
  have i1b:(bX L az==0)=false:=by simpa using q
  have i1c:decide (bX L az=0)=false:=Qf q;clear q iA qC aP M1 xL OV;obtain⟨z0,z1,z2,z3⟩:=(⟨M2.q.a0,M2.q.a1,M2.q.a2,M2.q.a3⟩:_∧_∧_∧_);have dW:=M2.q.q
  go_wp2_with (refine jy rfl rfl 63 _ _ rfl (w.heap.size+1) 0 [.int .u32 ai,.int .i64 dt,.int .i64 sp,.slice so L.length sc] (ed ai dt sp (.slice so L.length sc)) (by simp[Act.eval]) (by simp[Act.eval]) (by rfl) eT 63 dW (by simp) (by kernel_rfl) (by simp[Value.oneCell']) #[.int .u32 ai,.int .i64 dt,.int .i64 sp,.slice so L.length sc] (by rfl) ?_
               intro w9 dY iy)
  refine bodyPost_ret (v:= .tuple #[ed ai dt sp (.slice so L.length sc),.int .i64 0,.int .i64 (bX L az)]) ?_ rfl ?_
  ·rw[Fh rfl];simp[asAddr,run_loadVar_row w9 (w.heap.size+1) 63 63 _ (0,0) _ iy Tryz.underlying63 rfl CF.q]
  ·rw[Hn.q];exact⟨_,_,rfl,M2.q.at_.eD.grown dY M2.q.at_.size (fun k e=>by injection e with e;omega),M2.q.ext,M2.q.at_.ok.grown dY (fun g e=>by injection e with e;subst e;exact M2.q.xk),um.q.mono M2.q.at_.keep⟩
 case pos=>
  obtain⟨e1,rfl⟩:=Prod.mk.inj (OV.q.symm.trans (Xov q));have He:=Qh e1;have Hq:=Qh q;obtain⟨b0,b1,b2,b3,b4,b5,b6,b7,b8⟩:=drB_row (d:=dB) iA;clear q e1 qC aP M1 OV;go_wp2_with fail
  refine(Xm6 dB _ _ _ _ w2).mono ?_;rintro e3 w3 ⟨rfl,Ao⟩;have fu:Below w2.heap.size w2 w3:=by rw[Ao];exact(Qb _ _).alloc (Qn _) _
  have M3:=Qh (M2.q.quiet fu);have Uc:=Qh (show tT J1 w3 w2.heap.size dB _ _ _ _ from⟨M3.q.at_.ok,M2.q.at_.ok.fresh (Qn _),xL.q,by rw[Ao];exact heap_alloc_new _ _⟩);have Ec:=Qh (show lJ (n+0) dB by rw[He.q];exact Sk HA.q (by omega) (by omega) Hq.q);have Pn:w.heap.size+1<w2.heap.size:=by omega
  have F4:=Qh (show dU dB 0 l=dU dB 0 (l.drop 0)from rfl);clear b0 b1 b2 b3 b4 b5 b6 b7 b8 iA fu Ao M2 xL OO;generalize w2.heap.size=B at Uc Pn ⊢;go_wp2_with fail
  go_loopw [13,14,15,34] (fun _ _ _ s34 wr=> ∃(k:Nat) (J:IH) (d:fP) (ve vk vt vh:Value),k≤l.length∧s34= .int .i64 k∧tQ I w ai dt sp (.slice so L.length sc) (w.heap.size+1) eT 63 J wr∧tT J wr B d ve vk vt vh∧lJ (n+k) d∧dU dB 0 l=dU d k (l.drop k)) (fun _ _ _ i _=>l.length-(intOf i).toNat)
  case atStart=>exact⟨0,J1,dB,_,_,_,_,Nat.zero_le _,rfl,M3.q,Uc.q,Ec.q,F4.q⟩
  case round=>
   clear M3 Uc Ec F4;obtain⟨k,J,d,ve,vk,vt,vh,hk,rfl,hM,hWR,hdO,U1⟩:=hrel;have M:=Qh hM;have WR:=Qh hWR;have Ec:=Qh hdO;have F4:=Qh U1;clear hM hWR hdO U1;by_cases hlt:k<l.length
   ·obtain⟨c,va,b,off,cap',tV,dC,⟨c0,c1,c2,c3,c4⟩,gW⟩:=ZY (Hvc.q.mono M.q.at_.keep) M.q.at_.ok k hlt;cases dC;have gV:=Hc.q c (by rw[←tV];exact List.getElem_mem hlt);have bT:=Xo5 hlt tV F4.q;have MU:=Y9 Ec.q (by omega) (show c.aF.length≤65536 by omega);have yI:=(fun W (hW:tT J W B d ve vk vt vh)=>Xlz J (HG.q.mono M.q.at_.keep) d Ec.q (by omega) ve vk vt vh c gV.1 gV.2.1 _ gW B W hW);obtain⟨dn,rn,MS⟩:∃dn rn,gp d c=(dn,rn):=⟨_,_,rfl⟩;rw[MS]at bT MU yI;dsimp only at bT MU yI;replace bT:=Qh bT;replace MU:=Qh (show lJ (n+(k+1)) dn from MU);replace yI:=Qh yI;obtain⟨oa,ca,rfl,_,_,_⟩:=id gW;have Ma:=Qh (M.q.quiet ((Qb _ _).alloc (Qn _) (.cells #[.int .i64 c.aj,S c.ag,.slice oa c.au.length ca,S c.av,S c.aF] 25)));have Ud:=Qh (WR.q.below ((Qb _ _).alloc (Qn _) (.cells #[.int .i64 c.aj,S c.ag,.slice oa c.au.length ca,S c.av,S c.aF] 25)));clear gV tV gW MS M WR F4 Ec;go_wp2_with fail
    refine(yI.q _ Ud.q).mono ?_;rintro e5 w5 ⟨rfl,AR,nM,Cw,Cx,J5,hx5,F5,dm⟩;have M5:=Qh (Ma.q.wr dm Pn (by have:=Ud.q.lt;omega) hx5 F5.ok);have WR5:=Qh F5;clear hx5 F5 dm Ma Ud yI c0 c1 c2 c3 c4;by_cases h0:rn=0
    ·have Ac:=Qh (bT.q.2 h0);subst h0;clear bT;go_wp2_with fail
     go_roundw;case rel=>exact⟨k+1,J5,dn,_,_,_,_,by omega,by go_num,M5.q,WR5.q,MU.q,Ac.q⟩
     case measure=>simp[intOf];omega
    ·have Hn:=Qh (Xrc Hq.q h0 (by rw[←He.q];exact bT.q.1 h0):lI L az l=(L,k,rn));have i1:(rn !=0)=true:=by simpa using h0
     have i1b:(rn==0)=false:=by simpa using h0
     have i1c:decide (rn=0)=false:=Qf h0;clear h0 bT;obtain⟨z0,z1,z2,z3⟩:=(⟨M5.q.a0,M5.q.a1,M5.q.a2,M5.q.a3⟩:_∧_∧_∧_);have dW:=M5.q.q
     go_wp2_with (refine jy rfl rfl 63 _ _ rfl (w.heap.size+1) 0 [.int .u32 ai,.int .i64 dt,.int .i64 sp,.slice so L.length sc] (ed ai dt sp (.slice so L.length sc)) (by simp[Act.eval]) (by simp[Act.eval]) (by rfl) eT 63 dW (by simp) (by kernel_rfl) (by simp[Value.oneCell']) #[.int .u32 ai,.int .i64 dt,.int .i64 sp,.slice so L.length sc] (by rfl) ?_
                  intro w9 dY iy)
     refine bodyPost_ret (v:= .tuple #[ed ai dt sp (.slice so L.length sc),.int .i64 (k:Int),.int .i64 rn]) ?_ rfl ?_
     ·rw[Fh rfl];simp[asAddr,run_loadVar_row w9 (w.heap.size+1) 63 63 _ (0,0) _ iy Tryz.underlying63 rfl CF.q]
     ·rw[Hn.q];exact⟨_,_,rfl,M5.q.at_.eD.grown dY M5.q.at_.size (fun k e=>by injection e with e;omega),M5.q.ext,M5.q.at_.ok.grown dY (fun g e=>by injection e with e;subst e;exact M5.q.xk),um.q.mono M5.q.at_.keep⟩
   ·have oP:k=l.length:=by omega
    subst oP;have Ac:=Qh (Xq2 F4.q);have qR:=Qh (Xrd HA.q (by omega) hm (fun c hc=>(Hc.q c hc).2.2) Hq.q (by rw[←He.q];exact Ac.q));have Hn:=Qh (Xs7 Hq.q (by rw[←He.q];exact Ac.q):lI L az l=(L++[dI d],l.length,0));have qY:=Qh (fun J6 (hk6:∀b c,J b=some c→J6 b=some c) ve6 (yB:aY bJ J6 ve6 (dI d).aB) w' gD=>by
     have h9:=Xna J6 (HG.q.mono (fun b c hb=>hk6 b c (M.q.at_.keep b c hb))) ai dt sp L HA.q (by omega) hm _ (um.q.mono (fun b c hb=>hk6 b c (M.q.at_.keep b c hb))) (dI d) ve6 yB w' gD;rw[qR.q]at h9;exact h9)
    obtain⟨L2,MV⟩:∃L2,L++[dI d]=L2:=⟨_,rfl⟩;dsimp only at qY;rw[MV]at qY Hn;clear MV qR;have Al:=Ec.q.aB;obtain⟨ae,ce,rfl,_,_,_⟩:=id WR.q.rd.aB;obtain⟨ak,ck,rfl,_,_,_⟩:=id WR.q.rd.aM;obtain⟨at',ct,rfl,_,_,_⟩:=id WR.q.rd.aK;obtain⟨ah,ch,rfl,_,_,_⟩:=id WR.q.rd.aC;obtain⟨z0,z1,z2,z3⟩:=(⟨M.q.a0,M.q.a1,M.q.a2,M.q.a3⟩:_∧_∧_∧_);clear F4 Ec Ac;go_wp2_with fail
    refine tK (X:=(Option Addr×Nat)×(Option Addr×Nat)×Nat) (Ea B ai dt sp so sc L L2 d (.slice ae d.aB.length ce) (.slice ak d.bL.aM.length ck) (.slice at' d.aK.length ct) (.slice ah d.aC.length ch)) (jZ wr 3 232 4 233 8 234 225 235 (fun x w=>x.2.2<w.heap.size∧J x.2.2=none) (fun x w=> ∃J',Ext wr.heap.size J J'∧Ok J' w∧aY bJ J' (.slice x.1.1 (dI d).aB.length x.1.2) (dI d).aB∧J' x.2.2=none) (fun x w=> ∃J',Ext wr.heap.size J J'∧Ok J' w∧aY iO J' (.slice x.2.1.1 L2.length x.2.1.2) L2∧J' x.2.2=none) (fun x w=>w.heap[x.2.2]?=some (.cells eT 63 (0,0))∧wr.heap.size≤x.2.2) (fun _ _=>True) (fun x w=>(∃J',Ext wr.heap.size J J'∧Ok J' w∧aY iO J' (.slice x.2.1.1 L2.length x.2.1.2) L2∧J' x.2.2=none)∧(w.heap[x.2.2]?=some (.cells eT 63 (0,0))∧wr.heap.size≤x.2.2)) (fun x=>x.2.2) 63 9 212 213 (fun x=> #[.int .u32 ai,.int .i64 dt,.int .i64 sp,.slice x.2.1.1 L2.length x.2.1.2]) (fun x=> #[.int .u32 ai,.int .i64 dt,.int .i64 sp,.slice x.2.1.1 L2.length x.2.1.2]) (fun x=> #[.int .u32 ai,.int .i64 dt,.int .i64 sp,.slice x.2.1.1 L2.length x.2.1.2])) (by kernel_rfl) (by kernel_rfl) ?_ ?_ ?_
    ·exact⟨(default,default,w.heap.size+1),jZ.start _ _ ⟨M.q.lt,M.q.xk⟩⟩
    ·rintro x s' a' w' i cu bU ha hC hi;obtain⟨aJ,oi,dN,aA⟩:=mem_ready.1 hi;have ev:=A8 Eb ha;have hlt:=tJ aJ;rcases i with _|_|_|_|_|_|_|_|_|_|_|i
     rotate_left 11
     ·simp at dN
     all_goals
      have bY:=dN;simp at dN;subst dN;simp[Region.binds]at aA;try have hl:=qH 6 9 bU (by decide+kernel) aJ
      try have bQ:=hC.off hl
      try have z0:=bI bQ z0
      try have z1:=bI bQ z1
      try have z2:=bI bQ z2
      try have z3:=bI bQ z3
      refine wpOp_step bY (fun K' hK=> ?_);rw[if_pos (by rfl)]
     rotate_left 2
     ·unfold Oper.wp;simp[go_sem,ev,eZ,aA,Oper.upon];refine(Xly J d _ _ _ _ B w' (WR.q.below bQ)).mono ?_;rintro r4 w4 ⟨rfl,bA⟩;exact hK _ _ ⟨x,jQ Eb ha rfl aJ,hC.step hl (bQ.trans (bA.mono bQ.size)) (by decide) (fun h=>⟨Nat.lt_of_lt_of_le h.1 bA.size,h.2⟩) (fun h _=>h.elim (fun e=>absurd e (by decide)) (fun⟨_,_,q⟩=>(q.elim fun J9 h9=>⟨J9,h9.1,h9.2.1.below (Qn _) bA,h9.2.2⟩))) (fun h _=>h.elim (fun e=>absurd e (by decide)) (fun⟨_,_,q⟩=>(q.elim fun J9 h9=>⟨J9,h9.1,h9.2.1.below (Qn _) bA,h9.2.2⟩))) (fun h _=>h.elim (fun e=>absurd e (by decide)) (fun⟨_,_,q⟩=>⟨(bA.block _ (Qg q.1)).trans q.1,q.2⟩)) (fun _ _=>trivial) hlt⟩
     ·unfold Oper.wp;simp[go_sem,ev,eZ,aA,Oper.upon];refine(Xpk J d (by omega) _ _ _ _ WR.q.rd.aB w' (M.q.at_.ok.below (Qn _) bQ)).mono ?_;rintro r4 w4 ⟨v7,J7,rfl,bA,sZ,gT,oO⟩;obtain⟨a7,k7,rfl,_,_,_⟩:=id oO;have ha:=ha.trans (qF (L:=Ea B ai dt sp so sc L L2 d (.slice ae d.aB.length ce) (.slice ak d.bL.aM.length ck) (.slice at' d.aK.length ct) (.slice ah d.aC.length ch) x) (M:=Ea B ai dt sp so sc L L2 d (.slice ae d.aB.length ce) (.slice ak d.bL.aM.length ck) (.slice at' d.aK.length ct) (.slice ah d.aC.length ch) ((a7,k7),x.2)) [3] rfl (fun j aZ=>by
       rcases j with _|_|_|_|_|_|_|_|_|_|_|j<;>first|rfl|(exact absurd (by decide) aZ)|simp) (List.forall_mem_cons.2 ⟨jl aJ,List.forall_mem_nil _⟩))
      exact hK _ _ ⟨((a7,k7),x.2),jQ Eb ha rfl aJ,hC.step hl (bQ.trans (bA.mono bQ.size)) (by decide) (fun h=>⟨Nat.lt_of_lt_of_le h.1 bA.size,h.2⟩) (fun _ _=>⟨J7,fun b hb=>sZ b (Nat.lt_of_lt_of_le hb bQ.size),gT,oO,(sZ _ (hC.inv hl).1).trans (hC.inv hl).2⟩) (fun h _=>h.elim (fun e=>absurd e (by decide)) (fun⟨_,_,q⟩=>(q.elim fun J9 h9=>⟨J9,h9.1,h9.2.1.below (Qn _) bA,h9.2.2⟩))) (fun h _=>h.elim (fun e=>absurd e (by decide)) (fun⟨_,_,q⟩=>⟨(bA.block _ (Qg q.1)).trans q.1,q.2⟩)) (fun _ _=>trivial) hlt⟩
     ·obtain⟨J6,Az,gD,yB,yz⟩:=hC.f1 (by first|simpa using aA|simp[aA]) (kz (by simp[cu])) hl;unfold Oper.wp;simp[go_sem,ev,eZ,aA,Oper.upon];refine(qY.q J6 (fun b c hb=>Az.keep M.q.at_.ok (Qn _) b c hb) _ yB w' gD).mono ?_;rintro r4 w4 ⟨v7,J7,rfl,bA,sZ,gT,oO⟩;obtain⟨a7,k7,rfl,_,_,_⟩:=id oO;have ha:=ha.trans (qF (L:=Ea B ai dt sp so sc L L2 d (.slice ae d.aB.length ce) (.slice ak d.bL.aM.length ck) (.slice at' d.aK.length ct) (.slice ah d.aC.length ch) x) (M:=Ea B ai dt sp so sc L L2 d (.slice ae d.aB.length ce) (.slice ak d.bL.aM.length ck) (.slice at' d.aK.length ct) (.slice ah d.aC.length ch) (x.1,(a7,k7),x.2.2)) [4,5,6,9] rfl (fun j aZ=>by
       rcases j with _|_|_|_|_|_|_|_|_|_|_|j<;>first|rfl|(exact absurd (by decide) aZ)|simp) (List.forall_mem_cons.2 ⟨jl aJ,List.forall_mem_cons.2 ⟨qH 6 5 bU (by kernel_rfl) aJ,List.forall_mem_cons.2 ⟨qH 6 6 bU (by kernel_rfl) aJ,List.forall_mem_cons.2 ⟨qH 6 9 bU (by kernel_rfl) aJ,List.forall_mem_nil _⟩⟩⟩⟩))
      exact hK _ _ ⟨(x.1,(a7,k7),x.2.2),jQ Eb ha rfl aJ,hC.step hl (bQ.trans (bA.mono bQ.size)) (by decide) (fun h=>⟨Nat.lt_of_lt_of_le h.1 bA.size,h.2⟩) (fun h _=>h.elim (fun e=>absurd e (by decide)) (fun⟨_,_,q⟩=>(q.elim fun J9 h9=>⟨J9,h9.1,h9.2.1.below (Qn _) bA,h9.2.2⟩))) (fun _ _=>⟨J7,fun b hb=>(sZ b (Nat.lt_of_lt_of_le hb bQ.size)).trans (Az b hb),gT,oO,(sZ _ (hC.inv hl).1).trans yz⟩) (fun h _=>h.elim (fun e=>absurd e (by decide)) (fun⟨_,_,q⟩=>⟨(bA.block _ (Qg q.1)).trans q.1,q.2⟩)) (fun _ _=>trivial) hlt⟩
     rotate_left 3
     ·unfold Oper.wp;simp[go_sem,ev,eZ,aA,Oper.upon,z0,z1,z2,z3];have ha:=ha.trans (qF (L:=Ea B ai dt sp so sc L L2 d (.slice ae d.aB.length ce) (.slice ak d.bL.aM.length ck) (.slice at' d.aK.length ct) (.slice ah d.aC.length ch) x) (M:=Ea B ai dt sp so sc L L2 d (.slice ae d.aB.length ce) (.slice ak d.bL.aM.length ck) (.slice at' d.aK.length ct) (.slice ah d.aC.length ch) (x.1,x.2.1,w'.heap.size)) [8] rfl (fun j aZ=>by
       rcases j with _|_|_|_|_|_|_|_|_|_|_|j<;>first|rfl|(exact absurd (by decide) aZ)|simp) (List.forall_mem_cons.2 ⟨jl aJ,List.forall_mem_nil _⟩))
      exact hK _ _ ⟨(x.1,x.2.1,w'.heap.size),jQ Eb ha rfl aJ,hC.step hl (bQ.trans (((Qb _ _).alloc (Qn _) _).mono bQ.size)) (by decide) (fun _=>⟨by simp,M.q.at_.ok.fresh bQ.size⟩) (fun h _=>h.elim (fun e=>absurd e (by decide)) (fun⟨_,_,q⟩=>(q.elim fun J9 h9=>⟨J9,h9.1,h9.2.1.below (Qn _) ((Qb w'.heap.size w').alloc (Qn _) (.cells eT 63)),h9.2.2.1,h9.2.1.fresh (Qn _)⟩))) (fun h _=>h.elim (fun e=>absurd e (by decide)) (fun⟨_,_,q⟩=>(q.elim fun J9 h9=>⟨J9,h9.1,h9.2.1.below (Qn _) ((Qb w'.heap.size w').alloc (Qn _) (.cells eT 63)),h9.2.2.1,h9.2.1.fresh (Qn _)⟩))) (fun _ _=>⟨heap_alloc_new _ _,bQ.size⟩) (fun _ _=>trivial) hlt⟩
     ·have aU:w'.heap[x.2.2]?=some (.cells _ 63 (0,0)):=(hC.f3 (by first|simpa using aA|simp[aA]) (kz (by simp[cu])) hl).1;refine qU 63 _ _ rfl (x.2.2) 0 [.int .u32 ai,.int .i64 dt,.int .i64 sp,.slice x.2.1.1 L2.length x.2.1.2] (ed ai dt sp (.slice x.2.1.1 L2.length x.2.1.2)) (by simp[Act.eval,ev,eZ,aA]) (by simp[Act.eval,ev,eZ,aA]) (by rfl) _ _ aU (by simp) (by kernel_rfl) (by simp[Value.oneCell']) ?_;exact hK _ _ ⟨x,dF (d:=none) (v:=undef) Eb ha rfl aJ,hC.lH aJ ⟨hC.f2 (by first|simpa using aA|simp[aA]) (kz (by simp[cu])) hl,hC.f3 (by first|simpa using aA|simp[aA]) (kz (by simp[cu])) hl⟩ (kz (by simp[cu])) (kz (by simp[cu])) (by decide) aU (by rfl)⟩
     all_goals
      unfold Oper.wp;first
      |(simp[go_sem,ev,eZ,aA,Oper.upon,z0,z1,z2,z3];exact hK _ _ ⟨x,jQ Eb ha rfl aJ,hC.pure (by decide)⟩)
      |(simp[go_sem,ev,eZ,Oper.upon,z0,z1,z2,z3];exact hK _ _ ⟨x,jQ Eb ha rfl aJ,hC.pure (by decide)⟩)
    ·rintro x s' a' w6 eX ha hC;obtain⟨wb,gQ,gU,fF,aU⟩:=hC.on (eX 9 (by decide));simp only[ite_self]at aU;rw[su _ _ _ _ (fun i hi=>by rw[Nat.zero_add];exact eX i (by simpa using hi))]at ha;subst ha;simp only[df,Act.put,List.setIfInBounds_toArray,List.set_cons_succ,List.set_cons_zero];obtain⟨⟨ac1,kc1⟩,⟨OW,ks⟩,bx⟩:=x;dsimp only at gU fF aU ⊢;obtain⟨⟨J9,CG,q8,iy,OX⟩,qV,yl⟩:=gU;have cu:=M.q.at_.size;have akA:=M.q.lt;have hsW:=gQ.size;have hsg:=fF.size;have dW:=(fF.block _ (by omega:w.heap.size+1<wb.heap.size) (fun e=>by injection e with e;omega)).trans ((gQ.block _ M.q.lt).trans M.q.q);obtain⟨y0,y1,y2,y3⟩:=xm aU;have Hb6:=Qh (show Below w.heap.size w w6 from(M.q.at_.eD.trans (gQ.mono cu)).grown fF (by omega) (fun k e=>by injection e with e;omega));have Ue:=Qh (q8.grown fF (fun g e=>by injection e with e;subst e;exact OX));have Ce:=Qh iy;have Hx9:=Qh (M.q.ext.trans CG cu);have Uf:=Qh ((CG _ M.q.lt).trans M.q.xk);clear iy CG q8 qV aU z0 z1 z2 z3
     go_wp2_with (refine jy rfl rfl 63 _ _ rfl (w.heap.size+1) 0 [.int .u32 ai,.int .i64 dt,.int .i64 sp,.slice OW L2.length ks] (ed ai dt sp (.slice OW L2.length ks)) (by simp[Act.eval]) (by simp[Act.eval]) (by rfl) eT 63 dW (by simp) (by kernel_rfl) (by simp[Value.oneCell']) #[.int .u32 ai,.int .i64 dt,.int .i64 sp,.slice OW L2.length ks] (by rfl) ?_
                  intro w9 dY iy)
     refine bodyPost_ret (v:= .tuple #[ed ai dt sp (.slice OW L2.length ks),.int .i64 (l.length:Int),.int .i64 0]) ?_ rfl ?_
     ·rw[Fh rfl];simp[asAddr,run_loadVar_row w9 (w.heap.size+1) 63 63 _ (0,0) _ iy Tryz.underlying63 rfl CF.q]
     ·rw[Hn.q];exact⟨_,J9,rfl,Hb6.q.grown dY Hb6.q.size (fun k e=>by injection e with e;omega),Hx9.q,Ue.q.grown dY (fun g e=>by injection e with e;subst e;exact Uf.q),Ce.q⟩
structure Be {X:Type} (W:World) (j1 j2 j3 j4:Nat) (G1 G2 G3 G4:X→World→Prop) (x:X) (s:Array Bool) (w:World):Prop where
 off:Below W.heap.size W w
 f1:s.getD j1 false=true→G1 x w
 f2:s.getD j2 false=true→G2 x w
 f3:s.getD j3 false=true→G3 x w
 f4:s.getD j4 false=true→G4 x w
section
variable {X:Type} {W w w':World} {j1 j2 j3 j4:Nat} {G1 G2 G3 G4:X→World→Prop} {x:X} {s:Array Bool} {i:Nat}
theorem Be.start(n:Nat)(x:X):Be W j1 j2 j3 j4 G1 G2 G3 G4 x (Array.replicate n false) {W with drawn:=W.drawn+1}:=
 ⟨(Qb _ _).drew,fun h=>(by rw[sw]at h;cases h),fun h=>(by rw[sw]at h;cases h),fun h=>(by rw[sw]at h;cases h),fun h=>(by rw[sw]at h;cases h)⟩
theorem Be.pure(h:Be W j1 j2 j3 j4 G1 G2 G3 G4 x s w)(hd:i≠j1∧i≠j2∧i≠j3∧i≠j4):Be W j1 j2 j3 j4 G1 G2 G3 G4 x (s.setIfInBounds i true) w:=by
 obtain⟨h1,h2,h3,h4⟩:=hd;refine⟨h.off,?_,?_,?_,?_⟩
 ·rw[getD_set_ne false h1];exact h.f1
 ·rw[getD_set_ne false h2];exact h.f2
 ·rw[getD_set_ne false h3];exact h.f3
 ·rw[getD_set_ne false h4];exact h.f4
theorem Be.step(h:Be W j1 j2 j3 j4 G1 G2 G3 G4 x s w)(hb:Below W.heap.size W w'){x':X}
 (k1:i=j1∨(s.getD j1 false=true∧G1 x w)→G1 x' w') (k2:i=j2∨(s.getD j2 false=true∧G2 x w)→G2 x' w') (k3:i=j3∨(s.getD j3 false=true∧G3 x w)→G3 x' w') (k4:i=j4∨(s.getD j4 false=true∧G4 x w)→G4 x' w'):
 Be W j1 j2 j3 j4 G1 G2 G3 G4 x' (s.setIfInBounds i true) w':=
 ⟨hb,fun a=>k1 ((DN a).imp id fun q=>⟨q,h.f1 q⟩),fun a=>k2 ((DN a).imp id fun q=>⟨q,h.f2 q⟩),fun a=>k3 ((DN a).imp id fun q=>⟨q,h.f3 q⟩),fun a=>k4 ((DN a).imp id fun q=>⟨q,h.f4 q⟩)⟩
end
structure Pt2 (W:World) (m1 m2:Nat) (R1 R2:Array Value) (s:Array Bool) (w:World):Prop where
 eq:w=if s.getD 3 false=true then(({W with drawn:=W.drawn+1}:World).setRow m1 R1).setRow m2 R2 else if s.getD 2 false=true then({W with drawn:=W.drawn+1}:World).setRow m1 R1 else{W with drawn:=W.drawn+1}
section
variable {W w:World} {m1 m2:Nat} {R1 R2:Array Value} {s:Array Bool} {i:Nat}
end
theorem one_row{E:TypeId}{cs:List Value}{x:α}(hw:Ok J W)(hg:W.heap[g]?=some (.cells cs.toArray E (0,0)))(hn:J g=none)(hx:T.rd J cs x):
 ∃J',(∀b c,J b=some c→J' b=some c)∧Ext g J J'∧Ok J' W∧(∀b,b≠g→J' b=J b)∧aY T J' (.slice (some ⟨g,0,none⟩) 1 1) [x]:=by
 have nH:∀b c,J b=some c→(J.add g cs.toArray) b=some c:=fun b c hc=>by
  unfold IH.add;by_cases e:b=g
  ·subst e;rw[hn]at hc;cases hc
  ·rw[if_neg e];exact hc
 refine⟨J.add g cs.toArray,nH,Ext.add (Qn _) J _,hw.add hg,fun b hb=>by simp[IH.add,hb],⟨_,1,rfl,Qn _,by unfold maxLen;omega,fun _=>⟨g,0,cs.toArray,rfl,by simp[IH.add],fun i hi=> ?_⟩⟩⟩;have h0:i=0:=by simp at hi;omega
 subst h0;refine⟨cs,T.mono nH hx,fun j u hu=> ?_⟩;simpa using hu
theorem lq.own(h:lq I w0 J W)(hg:W.grownBy W' (some g))(hn:J g=none)(hl:w0.heap.size≤g):lq I w0 J W':=
 ⟨h.ok.grown hg (fun k e=>by injection e with e;subst e;exact hn),h.keep,h.eD.grown hg h.size (fun k e=>by injection e with e;omega)⟩
theorem Xtc{v:Value}{l:List α}(h:aY T I v l)(hn:l.length=n):∃ao cap,v= .slice ao n cap:=by
 obtain⟨ao,cap,e,_⟩:=h;exact⟨ao,cap,by rw[e,hn]⟩
theorem Xkn{ops:Array Oper}{tmps:Array Value}{j:Nat}{t:Tmp}{b:Bool}(ho:(ops[j]?).bind (·.dst)=some t)(h:tmps[t]?.getD undef= .bool b):yielded ops tmps j=some b:=by
 unfold yielded;rw[ho];cases ht:tmps[t]? with
 |none=>rw[ht]at h;cases h
 |some v=>rw[ht]at h;have h:v= .bool b:=h;subst h;simp[ht]
theorem Xta(s:af):(dA s).length=32:=by
 unfold dA;rw[List.length_map];exact Xr3 _ (NI ..)
def LX:af:=[116,101,120,116]
def Ug:af:=dA LX
def yA:aQ:=⟨1,[97],[],[],4,Ug,[⟨1,0,4⟩]⟩
def yR:aQ:=⟨4,[97],[],[],0,[],[]⟩
def sA:bu:=⟨1,5,[],[yA],LX,[]⟩
def sB:bu:=⟨2,6,(pR sA).1,[yR],[],[]⟩
theorem Xq5:∀{l:af},l.length=32→ ∃a0 a1 a2 a3 a4 a5 a6 a7 a8 a9 b0 b1 b2 b3 b4 b5 b6 b7 b8 b9 c0 c1 c2 c3 c4 c5 c6 c7 c8 c9 d0 d1,l=[a0,a1,a2,a3,a4,a5,a6,a7,a8,a9,b0,b1,b2,b3,b4,b5,b6,b7,b8,b9,c0,c1,c2,c3,c4,c5,c6,c7,c8,c9,d0,d1]
 | [a0,a1,a2,a3,a4,a5,a6,a7,a8,a9,b0,b1,b2,b3,b4,b5,b6,b7,b8,b9,c0,c1,c2,c3,c4,c5,c6,c7,c8,c9,d0,d1],_=>⟨a0,a1,a2,a3,a4,a5,a6,a7,a8,a9,b0,b1,b2,b3,b4,b5,b6,b7,b8,b9,c0,c1,c2,c3,c4,c5,c6,c7,c8,c9,d0,d1,rfl⟩
def iR:af:=[97,98,99]
def cA:gy:=⟨1,[97],[],[],iR⟩
def xC:Xt:=⟨1,0,3⟩
def yC:aQ:=⟨1,[97],[],[],3,dA iR,[xC]⟩
def sC:bu:=⟨1,5,[],[yC],iR,[]⟩
theorem Xrw:gX iR=[⟨0,iR⟩]:=by kernel_rfl
theorem Xsu:bN iR=[iR]:=by kernel_rfl
theorem Xr1:jE ⟨[],1,[]⟩ iR=(⟨[⟨dA iR,xC⟩],1,iR⟩,[xC],0):=by
 have h:(gX iR).foldl lG (⟨[],1,[]⟩,[])=(⟨[⟨dA iR,xC⟩],1,iR⟩,[xC]):=by
  rw[Xrw];show lG (⟨[],1,[]⟩,[]) ⟨0,iR⟩=_;rw[lG,if_neg (by decide)];show(bN iR).foldl nX (⟨[],1,[]⟩,[])=_;rw[Xsu];rfl
 rw[jE,if_neg (by decide),if_neg (by decide),h]
theorem Xr0:dw ⟨[],1,[]⟩ cA=(yC,⟨[⟨dA iR,xC⟩],1,iR⟩):=by
 have h:=Xr1;unfold dw;rw[if_pos (by rfl),show cA.aF=iR from rfl,h];rfl
theorem Xs0{d:af}(h:d.length=32):bG [] ⟨1,[97],[],[],3,d,[⟨1,0,3⟩]⟩=([⟨1,[97],[],[],3,d,[⟨1,0,3⟩]⟩],0):=by
 obtain⟨a0,a1,a2,a3,a4,a5,a6,a7,a8,a9,b0,b1,b2,b3,b4,b5,b6,b7,b8,b9,c0,c1,c2,c3,c4,c5,c6,c7,c8,c9,d0,d1,rfl⟩:=Xq5 h;kernel_rfl
theorem Xsd{d:af}(h:d.length=32):aL ⟨1,[97],[],[],3,d,[⟨1,0,3⟩]⟩=0:=by
 obtain⟨a0,a1,a2,a3,a4,a5,a6,a7,a8,a9,b0,b1,b2,b3,b4,b5,b6,b7,b8,b9,c0,c1,c2,c3,c4,c5,c6,c7,c8,c9,d0,d1,rfl⟩:=Xq5 h;kernel_rfl
theorem Xrh:cZ bf yC 5=(⟨[yC],[]⟩,0):=by
 have h:bG [] yC=([yC],0):=Xs0 (Xta _);unfold cZ;rw[show bf.aK=[]from rfl,h];rfl
theorem Xs4:gp (eQ [] 5) cA=(⟨1,5,[],[yC],⟨[⟨dA iR,xC⟩],1,iR⟩,[yC],[]⟩,0):=by
 have h1:dw (eQ [] 5).bL cA=(yC,⟨[⟨dA iR,xC⟩],1,iR⟩):=Xr0;have h2:cZ (eQ [] 5).stt yC (eQ [] 5).az=(⟨[yC],[]⟩,0):=Xrh;have h3:aL yC=0:=Xsd (Xta _);unfold gp;rw[h1];dsimp only;rw[h2,if_neg (by omega),if_neg (by rintro⟨h,_⟩;exact h rfl),if_neg (by rintro(h|h)<;>exact absurd h (by decide)),if_neg (by decide)];rfl
theorem Xre:lI [] 5 [cA]=([sC],1,0):=by
 have h:dU (eQ [] 5) 0 [cA]=(⟨1,5,[],[yC],⟨[⟨dA iR,xC⟩],1,iR⟩,[yC],[]⟩,1,0):=by
  rw[dU,Xs4,if_neg (by decide),dU]
 unfold lI;rw[if_neg (by decide),h];rfl
theorem LY:cA.Sm:=⟨by decide,by decide,by decide,by decide,by decide,by decide,fun x hx=>(by cases hx)⟩
