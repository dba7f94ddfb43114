/- Lemmas for the claim's theorem;conditions: as each says. -/
import Derived.Test.YtmdfjnhfhidmhaaGreatDoorQ06
import Derived.Lib.MinMax
import Derived.Shelf.Strings.Builder1
import Derived.Shelf.Strings.Builder2
import Derived.Shelf.Strings.Repeat
import Derived.Shelf.Strings.LastIndex
import Derived.Test.YtmdfjnhfhidmhaaGreatDoorProg
set_option maxHeartbeats 0
set_option maxRecDepth 100000
set_option linter.all false
namespace Go.Proofs.YtmdfjnhfhidmhaaGreatDoor
open Go.RowKit
variable{s:af}
theorem WA(h:eH s=true):Lib.atoiAll s= .ok (digits s)∧s≠[]∧s.all jW=true∧((s.getD 0 0).toNat=48→s=[48]):=by
 have h':=h;obtain⟨n,h1,h2,h3,h4⟩:=(Wv s).1 h;obtain⟨u,rfl⟩:=Int.eq_ofNat_of_zero_le h2;rw[Lib.itoa,if_neg (by omega),Int.toNat_natCast]at h4;obtain⟨f1,f2,f3,f4,f5⟩:=Wu u;rw[h4]at f1 f2 f3 f4 f5;have IV:digits s=u:=by rw[P6 f1,f3]
 refine⟨by rw[IV];exact h1,f2,f1,fun hc=> ?_⟩;cases s with
 |nil=>exact absurd rfl f2
 |cons c r=>
  have jk:c=48:=by
   apply UInt8.toNat_inj.1;simpa using hc
  subst jk;have hu:u=0:=by
   by_cases k:1≤u
   ·exact absurd rfl (f5 k)
   ·omega
  subst hu;rw[←h4];first|(rw[Lib.decDigits];rfl)|simp[Lib.decDigits]|decide
def mf:af:=[48,49,50,51,52,53,54,55,56,57]
theorem Xml:∀c:UInt8,jW c=true→mf.contains c=true:=by
 intro c h;have hb:=GV h;have key:∀n:Fin 256,48≤n.1→n.1≤57→mf.contains (UInt8.ofNat n.1)=true:=by decide
 have:=key ⟨c.toNat,c.toNat_lt⟩ hb.1 hb.2;simpa using this
theorem Xjt(h:s.all jW=true):Lib.trimS s mf=[]:=by
 rw[Ww,List.all_eq_true];intro c hc;exact Xml c (List.all_eq_true.1 h c hc)
theorem Xnx(s:af)(hs:s.length≤9223372036854775807)(w:World):
 Calls Tryz.prog 144 #[S s,S mf] w fun e w'=>e= .returned (S (Lib.trimS s mf))∧Below w.heap.size w w':=by
 have h:=Tryz.mQ ⟨s.toArray⟩ ⟨mf.toArray⟩ w (by rw[ByteArray.size_mk',List.size_toArray];exact hs) (by decide) (ascii_of_all (by decide));exact h
theorem Xnh(s:af)(hs:s.length≤4294967280)(hd:eH s=true)(w:World):
 Calls Tryz.prog 91 #[S s] w fun e w'=>e= .returned (.tuple #[.int .i64 (digits s),.bool true])∧Below w.heap.size w w':=by
 obtain⟨ha,aZ,aA,hz⟩:=WA hd;have oh:=(Wi hd).2;have hlen:=List.length_pos_iff.2 aZ;obtain⟨p1,p2,p3,p4⟩:=Bo aZ;have Ht:=Qh (Xnx s (by omega) w);rw[Xjt aA]at Ht;have Ha:=Qh (fun w=>Wy s hs _ ha w);have uP:=l6 (P:=Tryz.prog) Tryz.underlying9 s 0 0 rfl hlen;have q1:decide (digits s≤1000000000)=true:=Qt oh;generalize digits s=n at Ha oh q1 ⊢;have HD:=Qh (show mf=[48,49,50,51,52,53,54,55,56,57]from rfl);rw[HD.q]at Ht;clear hd ha aA aZ;by_cases hc:(s.getD 0 0).toNat=48
 ·have lN:=hz hc;have k1:(((s.getD 0 0).toNat:Int)==48)=true:=by rw[hc];rfl
  have k2:(s==[48])=true:=by rw[lN];rfl
  have Hs:=Qh lN;clear lN hc hz;generalize(s.getD 0 0).toNat=c at uP k1;go_enter Tryz.func91,Tryz.ntmps91
  go_wp2_with fail
  refine Ht.q.mono ?_;rintro e w1 ⟨rfl,aG⟩;go_wp2_with fail
  refine(Ha.q _).mono ?_;rintro e w2 ⟨rfl,aP⟩;go_wp2;go_ret2;exact⟨rfl,aG.trans (aP.mono aG.size)⟩
 ·have k1:(((s.getD 0 0).toNat:Int)==48)=false:=by
   have:((s.getD 0 0).toNat:Int)≠48:=by omega
   simpa using this
  clear hc hz;generalize(s.getD 0 0).toNat=c at uP k1;go_enter Tryz.func91,Tryz.ntmps91
  go_wp2_with fail
  refine Ht.q.mono ?_;rintro e w1 ⟨rfl,aG⟩;go_wp2_with fail
  refine(Ha.q _).mono ?_;rintro e w2 ⟨rfl,aP⟩;go_wp2;go_ret2;exact⟨rfl,aG.trans (aP.mono aG.size)⟩
theorem Xjz(I:IH)(hI:cB I)(p:af)(hp:p.length≤4294967280)(b:Nat)(l:List Ho)(hl:∀h∈l,h.p.length≤4294967280)(w:World)(hw:Ok I w)(hc:w.cell? ⟨b,1,none⟩=some (S p)):om 164 #[.pointer (some ⟨b,0,none⟩)] l (fun h=>under h.p p) (Below w.heap.size w):=by
 intro x hx W hW;have Hu:=Qh (PV I hI x.p p (hl x hx) hp (W.alloc (.cells #[S x.p,.int .i64 x.u] 148)) ((hw.below (Qn _) hW).alloc _));have Gg:=jH (.cells #[S x.p,.int .i64 x.u] 148) (bI hW hc);clear hc;show Calls Tryz.prog _ #[GU x,.pointer (some ⟨b,0,none⟩)] W _;go_enter Tryz.func164,Tryz.ntmps164
 go_wp2_with fail
 refine Hu.q.mono ?_;rintro e w1 ⟨rfl,aG⟩;go_wp2;go_ret;exact⟨rfl,((Qb _ _).alloc (Qn _) _).trans (aG.mono (by simp))⟩
theorem Xl4(I:IH)(hI:cB I)(v:Value)(l:List Ho)(hv:aY jh I v l)(hk:rU l)(hn:l.length≤100000)(e:aQ)(va vx:Value)(gW:aY lv I va e.au)(j6:aY kQ I vx e.aD)(hp:e.ag.length≤4294967280)(d:Int)(w:World)(hw:Ok I w):
 Calls Tryz.prog 112 #[v,fG e va vx,.int .i64 d] w fun r w'=>r= .returned (.int .i64 (kG l e.aj e.ag d))∧Below w.heap.size w w':=by
 have Hh:=Qh (fun w hw=>Xrx I hI v l hv hk hn e.ag hp d w hw);have Ha:=Qh (fun w hw=>JD I v l hv hn d w hw);have HI:=Qh hI;have Hk:=Qh (hk.act d);obtain⟨ao,cap,rfl,dM,gV,_⟩:=id hv;obtain⟨aa,ca,rfl,_,_,_⟩:=id gW;obtain⟨ax,cx,rfl,_,_,_⟩:=id j6;clear hv gW j6 hI hk;by_cases h1:e.aj=1
 ·have k1:((e.aj:Int)==1)=true:=by simpa using h1
  have Hn:=Qh (show kG l e.aj e.ag d=if kg l e.ag d then 15 else 0 by rw[kG,if_pos (.inl h1)]);generalize kg l e.ag d=b at Hh Hn;clear h1;go_enter Tryz.func112,Tryz.ntmps112
  go_wp2_with fail
  refine(Hh.q _ (hw.alloc _)).mono ?_;rintro e1 w1 ⟨rfl,aG⟩;have aO:=((Qb w.heap.size w).alloc (Qn _) (.cells #[.int .i64 e.aj,S e.ag,.slice aa e.au.length ca,S e.av,.int .i64 e.size,S e.aI,.slice ax e.aD.length cx] 81)).trans (aG.mono (by simp));cases b
  ·go_wp2;go_ret;exact⟨dK Hn.q.symm,aO⟩
  ·go_wp2;go_ret;exact⟨dK Hn.q.symm,aO⟩
 have k1:((e.aj:Int)==1)=false:=by simpa using h1
 by_cases h2:e.aj=2
 ·have k2:((e.aj:Int)==2)=true:=by simpa using h2
  have Hn:=Qh (show kG l e.aj e.ag d=if kg l e.ag d then 15 else 0 by rw[kG,if_pos (.inr (.inl h2))]);generalize kg l e.ag d=b at Hh Hn;clear h1 h2;go_enter Tryz.func112,Tryz.ntmps112
  go_wp2_with fail
  refine(Hh.q _ (hw.alloc _)).mono ?_;rintro e1 w1 ⟨rfl,aG⟩;have aO:=((Qb w.heap.size w).alloc (Qn _) (.cells #[.int .i64 e.aj,S e.ag,.slice aa e.au.length ca,S e.av,.int .i64 e.size,S e.aI,.slice ax e.aD.length cx] 81)).trans (aG.mono (by simp));cases b
  ·go_wp2;go_ret;exact⟨dK Hn.q.symm,aO⟩
  ·go_wp2;go_ret;exact⟨dK Hn.q.symm,aO⟩
 have k2:((e.aj:Int)==2)=false:=by simpa using h2
 by_cases h3:e.aj=3
 ·have k3:((e.aj:Int)==3)=true:=by simpa using h3
  have Hn:=Qh (show kG l e.aj e.ag d=if kg l e.ag d then 15 else 0 by rw[kG,if_pos (.inr (.inr h3))]);generalize kg l e.ag d=b at Hh Hn;clear h1 h2 h3;go_enter Tryz.func112,Tryz.ntmps112
  go_wp2_with fail
  refine(Hh.q _ (hw.alloc _)).mono ?_;rintro e1 w1 ⟨rfl,aG⟩;have aO:=((Qb w.heap.size w).alloc (Qn _) (.cells #[.int .i64 e.aj,S e.ag,.slice aa e.au.length ca,S e.av,.int .i64 e.size,S e.aI,.slice ax e.aD.length cx] 81)).trans (aG.mono (by simp));cases b
  ·go_wp2;go_ret;exact⟨dK Hn.q.symm,aO⟩
  ·go_wp2;go_ret;exact⟨dK Hn.q.symm,aO⟩
 have k3:((e.aj:Int)==3)=false:=by simpa using h3
 have vw:¬(e.aj=1∨e.aj=2∨e.aj=3):=fun q=>by omega
 by_cases h4:e.aj=4;case neg=>
  have k4:((e.aj:Int)==4)=false:=by simpa using h4
  have Hn:=Qh (show kG l e.aj e.ag d=0 by rw[kG,if_neg vw,if_neg h4]);clear h1 h2 h3 h4 vw;go_enter Tryz.func112,Tryz.ntmps112
  go_wp2;go_ret;exact⟨dK Hn.q.symm,(Qb w.heap.size w).alloc (Qn _) _⟩
 have k4:((e.aj:Int)==4)=true:=by simpa using h4
 have Hn:=Qh (show kG l e.aj e.ag d=if kg l e.ag d || pg l e.ag d then 15 else 0 by rw[kG,if_neg vw,if_pos h4]);clear h1 h2 h3 h4 vw;have ul:=Qh (show pg l e.ag d=(bO l d).any (fun h=>under h.p e.ag)from rfl);generalize kg l e.ag d=b at Hh Hn;generalize pg l e.ag d=c at Hn ul;go_enter Tryz.func112,Tryz.ntmps112
 go_wp2_with fail
 refine(Hh.q _ (hw.alloc _)).mono ?_;rintro e1 w1 ⟨rfl,aG⟩;have lX:=Qh (eO (e:=e) rfl aG);have aS:Ok I w1:=(hw.alloc _).below (Qn _) aG;have aO:=((Qb w.heap.size w).alloc (Qn _) (.cells #[.int .i64 e.aj,S e.ag,.slice aa e.au.length ca,S e.av,.int .i64 e.size,S e.aI,.slice ax e.aD.length cx] 81)).trans (aG.mono (by simp));clear aG;cases b;case true=>
  go_wp2;go_ret;exact⟨dK Hn.q.symm,aO⟩
 have ma:=Qh (fun b (hb:w1.heap.size≤b)=>aS.fresh (b:=b) hb);go_wp2_with fail
 refine(Ha.q _ aS).mono ?_;rintro e2 w2 ⟨v2,rfl,bM,aP⟩;have bC:Ok I w2:=aS.below (Qn _) aP;obtain⟨I2,jA,kL,oo,_⟩:=bM.freeze bC ma.q;have Hp:=Qh (Xjz I2 (HI.q.mono (jA.keep aS (Qn _))) e.ag hp w.heap.size (bO l d) Hk.q.short w2 kL (lX.q.aX aP).c1);have Hc:=Qh (Wm I2 _ _ oo _ _ _ w2 kL (fun _ _=>by kernel_rfl) Hp.q);rw[←ul.q]at Hc;have bS:=aO.trans (aP.mono aO.size);obtain⟨a1,c1,rfl,_,_,_⟩:=id oo;clear aP bM oo kL jA Ha Hp aO;go_wp2_with fail
 refine Hc.q.mono ?_;rintro e3 w3 ⟨rfl,fu⟩;have mR:=bS.trans (fu.mono bS.size);cases c
 ·go_wp2;go_ret;exact⟨dK Hn.q.symm,mR⟩
 ·go_wp2;go_ret;exact⟨dK Hn.q.symm,mR⟩
theorem Xhm(I:IH)(B:Nat)(v:Value)(l:List _)(x:_)(vb:Nat)(news:List Value)(w:World)(hv:aN jh 148 I w B v l)(hx:jh.rd I news x)
 (je:∀j u,news[j]?=some u→w.cell? ⟨vb,j,none⟩=some u) (eU:(l.length+1)*24≤140737488355328) (hB:B≤w.heap.size):
 Calls Tryz.prog 94 #[v,.int .i64 l.length,.slice (some ⟨vb,0,none⟩) 1 1] w fun e w'=> ∃v',e= .returned v'∧aN jh 148 I w' B v' (l++[x])∧w.grownBy w' v.ownBlock:=by
 obtain⟨i0,hi,nN,lM,oW⟩:=info_parts Nq;obtain⟨xs,bM,hL⟩:=hv;have HL:=Qh hL;have Hx:=Qh hx;have um:=Qh je;have uV:maxLen=9223372036854775807:=rfl;have hlen:l.length≤4611686018427387904:=by omega
 clear hL hx je;have nJ:v= .slice none 0 0∧l.length=0∨ ∃g cap,v= .slice (some ⟨g,0,none⟩) l.length cap∧l.length≤cap∧cap≤9223372036854775807:=by
  rcases bM.2 with h|⟨g,cap,cur,h1,_,_,h2,h3,_⟩
  ·exact .inl h
  ·exact .inr ⟨g,cap,h1,h2,by rw[uV]at h3;exact h3⟩
 have JF:=Qh uV;clear uV;rcases nJ with⟨rfl,h0⟩|⟨g,cap,rfl,dM,gV⟩
 ·have:l=[]:=List.eq_nil_of_length_eq_zero h0;subst this;go_enter Tryz.func94,Tryz.ntmps94
  go_wp2_with (at_builtin;refine wpList_append_own _ rfl _ _ 41 rfl B 148 i0 _ 2 24 Tryz.underlying41 hi nN lM oW rfl (by decide) _ _ _ rfl bM ⟨vb,0,none⟩ 1 1 news rfl ?qc1 ?qc2 ?qc3 ?qc4 ?qc5 ?qc6 ?_)
  case qc1=>exact jh.len Hx.q
  case qc2=>intro j u hj;rw[Addr.add_lit,Nat.zero_add];exact um.q j u hj
  case qc3=>exact jh.one Hx.q
  case qc4=>rw[JF.q];simp
  case qc5=>simp
  case qc6=>exact hB
  intro v' w1 gN jf _;go_wp2;go_ret;exact⟨v',rfl,⟨_,gN,bB.append HL.q (bB.one Hx.q)⟩,jf⟩
 ·go_enter Tryz.func94,Tryz.ntmps94
  go_wp2_with (at_builtin;refine wpList_append_own _ rfl _ _ 41 rfl B 148 i0 _ 2 24 Tryz.underlying41 hi nN lM oW rfl (by decide) _ _ _ rfl bM ⟨vb,0,none⟩ 1 1 news rfl (jh.len Hx.q) (fun j u hj=>by rw[Addr.add_lit,Nat.zero_add];exact um.q j u hj) (jh.one Hx.q) (by rw[JF.q];omega) eU hB ?_)
  all_goals
   intro v' w1 gN jf _;go_wp2;go_ret;exact⟨v',rfl,⟨_,by rw[List.length_append];exact gN,bB.append HL.q (bB.one Hx.q)⟩,jf⟩
theorem Xfr(I:IH)(B g cap i:Nat)(l:List _)(x:_)(vb:Nat)(tb:TypeId)(news:List Value)(w:World)(hv:aN jh 148 I w B (.slice (some ⟨g,0,none⟩) l.length cap) l)(hx:jh.rd I news x)
 (kR:w.heap[vb]?=some (.cells news.toArray tb (0,0))) (aZ:vb≠g) (hi:i<l.length) (lY:l.length+1≤cap) (gV:cap≤9223372036854775807):
 Calls Tryz.prog 94 #[.slice (some ⟨g,0,none⟩) l.length cap,.int .i64 i,.slice (some ⟨vb,0,none⟩) 1 1] w fun e w'=> ∃v',e= .returned v'∧aN jh 148 I w' B v' (l.take i++x::l.drop i)∧w.grownBy w' (some g):=by
 obtain⟨i0,CJ,nN,lM,oW⟩:=info_parts Nq;obtain⟨xs,⟨mI,bM⟩,hL⟩:=hv;rcases bM with⟨h0,_⟩|⟨g',cap',cur,h1,ym,hg,_,wu,fK,qo⟩
 ·cases h0
 injection h1 with qp UK Gj
 injection qp with qp
 injection qp with qp
 subst qp Gj;have cu:(Tryz.prog.info? 148).map (·.size)=some 2:=by rw[CJ];simp[lM]
 have sU:news.length=2:=jh.len hx;have yQ:=jh.one hx;have pu:xs.length=l.length*2:=mI;have iw:cur.size=cap*2:=fK;have jC:cur.toList.take xs.length=xs:=by rw[mI];exact qo
 have UL:∀lb cb,(callFunc 146 #[.slice (some ⟨vb,0,none⟩) 1 1,.slice (some ⟨g,(i+1)*2,none⟩) lb cb]).run Tryz.prog w= .ok (.value (.bool false)) w:=fun lb cb=>by
  rw[run_callFunc_extern Tryz.func146 (by kernel_rfl) (by kernel_rfl) (by kernel_rfl) (e:=Extern.SlicesOverlaps.overlaps #[41,41] #[4]) (by kernel_rfl),
   Lib.run_overlaps_apart w 41 4 148 Tryz.underlying41 2 (fun w=>by simp[go_sem]) ⟨vb,0,none⟩ ⟨g,(i+1)*2,none⟩ 1 1 lb cb aZ tb 148 2 cur.size (by simp[World.shape?,kR,sU]) (by simp[World.shape?,hg]) (by omega) (by simp[World.frozen?,kR]) (by simp[World.frozen?,kR])]
  rfl
 obtain⟨ik,mU⟩:∃c,c=over cur (i*2+2) (xs.drop (i*2)):=⟨_,rfl⟩;have xu:ik.size=cur.size:=by rw[mU];exact yx _ _ _ (by rw[List.length_drop];omega)
 obtain⟨nR,mV⟩:∃c,c=over ik (i*2) news:=⟨_,rfl⟩;have sQ:nR.size=ik.size:=by rw[mV];exact yx _ _ _ (by omega)
 have jG:nR.toList.take ((l.length+1)*2)=xs.take (i*2)++news++xs.drop (i*2):=by
  have:=insert_row cur xs news (i*2) 2 (by omega) jC sU (by omega);rw[←mU,←mV]at this;rw[show(l.length+1)*2=xs.length+2 by omega];exact this
 have ww:∀ty dc sc,(Builtin.copy_ #[41,41] ty #[.slice (some ⟨g,(i+1)*2,none⟩) (l.length-i) dc,.slice (some ⟨g,i*2,none⟩) (l.length+1-i) sc]).run Tryz.prog w.drew= .ok (goInt ((l.length-i:Nat):Int)) (w.drew.setRow g ik):=fun ty dc sc=>by
  have h:=AC (P:=Tryz.prog) w.drew 41 41 ty 148 2 g ((i+1)*2) (l.length-i) dc ⟨g,i*2,none⟩ (l.length+1-i) sc cur 148 (xs.drop (i*2)) Tryz.underlying41 cu hg (by rw[List.length_drop];simp only[Nat.min_def];split<;>omega)
   (fun j u hj=>by
     rw[Addr.add_lit];rw[List.getElem?_drop,←jC,List.getElem?_take]at hj;split at hj
     ·rw[World.cell?_drew,cell_of_row w g _ cur _ _ hg,←Array.getElem?_toList];exact hj
     ·cases hj) (by rw[List.length_drop];omega) (fun u hu=>hL.oneCell u (List.mem_of_mem_drop hu))
  rw[h,show Nat.min (l.length+1-i) (l.length-i)=l.length-i by simp only[Nat.min_def];split<;>omega,mU];rw[show(i+1)*2=i*2+2 by omega];rfl
 have Ah:(w.drew.setRow g ik).heap[g]?=some (.cells ik 148 (0,0)):=setRow_heap w.drew g cur ik _ _ hg;have wy:∀ty dc,(Builtin.copy_ #[41,41] ty #[.slice (some ⟨g,i*2,none⟩) (l.length+1-i) dc,.slice (some ⟨vb,0,none⟩) 1 1]).run Tryz.prog (w.drew.setRow g ik)= .ok (goInt 1) ((w.drew.setRow g ik).setRow g nR):=fun ty dc=>by
  have h:=AC (P:=Tryz.prog) (w.drew.setRow g ik) 41 41 ty 148 2 g (i*2) (l.length+1-i) dc ⟨vb,0,none⟩ 1 1 ik 148 news Tryz.underlying41 cu Ah (by rw[sU];simp only[Nat.min_def];split<;>omega)
   (fun j u hj=>by
     rw[Addr.add_lit,Nat.zero_add];have:(w.drew.setRow g ik).heap[vb]?=some (.cells news.toArray tb (0,0)):=by rw[setRow_other _ _ _ _ aZ];exact kR
     rw[cell_of_row _ vb j _ _ _ this];simpa using hj) (by omega) yQ
  rw[h,show Nat.min 1 (l.length+1-i)=1 by simp only[Nat.min_def];split<;>omega,mV];rfl
 have wz:=Qh (show(xs.take (i*2)++news++xs.drop (i*2)).length=(l.length+1)*2 by simp;omega);have za:=Qh (show nR.size=cap*2 by omega);have pz:=Qh jG;have HL:=Qh hL;have Hx:=Qh hx;have ze:=Qh Ah;have aG:¬(cap=i+1):=by omega
 have aP:¬(cap=i):=by omega
 clear jG hL hx Ah mU mV mI pu fK iw qo jC sU yQ kR wu hg;have Ei:IntKind.i64.wrap ((i:Int)+1)=(i:Int)+1:=IntWalk.i64_in _ (by omega);have Mo:0≤(i:Int)+1:=by omega
 have Ao:((i:Int)+1).toNat=i+1:=by omega
 have Mq:i≤l.length:=by omega
 have GY:(i:Int)≤(l.length:Int)+1:=by omega
 go_enter Tryz.func94,Tryz.ntmps94
 go_wp2_with (simp only[UL])
 go_region_law (refine step_copy_runI rfl _ _ 41 41 rfl _ _ (by simp[Act.eval,Act.put]) (by simp[Act.eval,Act.put]) (ww _ _ _) ?_)
 go_wp2_with (at_builtin;refine wpList_copy_runI _ rfl _ _ 41 41 rfl _ _ rfl rfl (wy _ _) ?_)
 go_ret;have CK:(l.take i++x::l.drop i).length=l.length+1:=by simp;omega
 refine⟨_,rfl,?_,?_⟩
 ·unfold aN;rw[CK];refine⟨xs.take (i*2)++news++xs.drop (i*2),⟨wz.q,.inr ⟨g,cap,nR,rfl,ym,setRow_heap _ g ik nR _ _ ze.q,by omega,by unfold maxLen;omega,za.q,pz.q⟩⟩,?_⟩;have:=((HL.q.take i).append (bB.one Hx.q)).append (HL.q.drop i);rwa[show l.take i++[x]++l.drop i=l.take i++x::l.drop i by simp]at this
 ·have h0:w.grownBy w.drew (some g):=⟨rfl,rfl,rfl,Qn _,fun _ _ _=>rfl⟩;exact GX (GX h0 vE) vE
theorem Xgg(I:IH)(B g cap i:Nat)(l:List _)(x:_)(vb:Nat)(tb:TypeId)(news:List Value)(w:World)(hv:aN jh 148 I w B (.slice (some ⟨g,0,none⟩) l.length cap) l)(hx:jh.rd I news x)
 (kR:w.heap[vb]?=some (.cells news.toArray tb (0,0))) (hi:i<l.length) (lY:cap<l.length+1) (eU:(l.length+1)*24≤140737488355328) (hB:B≤w.heap.size):
 Calls Tryz.prog 94 #[.slice (some ⟨g,0,none⟩) l.length cap,.int .i64 i,.slice (some ⟨vb,0,none⟩) 1 1] w fun e w'=> ∃v',e= .returned v'∧aN jh 148 I w' B v' (l.take i++x::l.drop i)∧w.grownBy w' (some g):=by
 obtain⟨i0,CJ,nN,lM,oW⟩:=info_parts Nq;obtain⟨xs,⟨mI,bM⟩,hL⟩:=hv;rcases bM with⟨h0,_⟩|⟨g',cap',cur,h1,ym,hg,Bg,wu,fK,qo⟩
 ·cases h0
 injection h1 with qp UK Gj
 injection qp with qp
 injection qp with qp
 subst qp Gj;have cu:(Tryz.prog.info? 148).map (·.size)=some 2:=by rw[CJ];simp[lM]
 have sU:news.length=2:=jh.len hx;have yQ:=jh.one hx;have pu:xs.length=l.length*2:=mI;have iw:cur.size=cap*2:=fK;have jC:cur.toList.take xs.length=xs:=by rw[mI];exact qo
 have UM:g<w.heap.size:=(Qg hg);have UN:vb<w.heap.size:=(Qg kR);have mg:∀(j:Nat) u,xs[j]?=some u→w.cell? ⟨g,j,none⟩=some u:=fun j u hj=>by
  rw[←jC,List.getElem?_take]at hj;split at hj
  ·rw[cell_of_row w g _ cur _ _ hg,←Array.getElem?_toList];exact hj
  ·cases hj
 have hold:(Builtin.firstCells i0.size i (.slice (some ⟨g,0,none⟩) i cap)).run Tryz.prog w.drew= .ok (xs.take (i*2)).toArray w.drew:=
  run_firstCells_some w.drew i0.size i ⟨g,0,none⟩ i cap (xs.take (i*2)) (by rw[lM,List.length_take];omega) (fun j u hj=>by
   rw[Addr.add_lit,Nat.zero_add];rw[List.getElem?_take]at hj;split at hj
   ·exact mg j u hj
   ·cases hj)
 obtain⟨G,hG⟩:∃G,G=grownCap w (l.length+1) cap 148:=⟨_,rfl⟩;have UO:l.length+1≤G:=by rw[hG];exact grownCap_ge w _ _ _
 have UQ:G≤9223372036854775807:=by
  have:=grownCap_le_maxLen w (l.length+1) cap 148 (by unfold maxLen;omega);rw[←hG]at this;unfold maxLen at this;omega
 obtain⟨z,hz⟩:∃z,i0.zero=some z:=⟨_,nN⟩;have Mr:z.cells.size=2:=by rw[hz]at nN;cases nN;rfl
 obtain⟨ROW,sV⟩:∃ROW:Array Value,ROW=(xs.take (i*2)).toArray++Builtin.zeroCells z.cells (l.length+1-i)++Builtin.zeroCells z.cells (G-(l.length+1)):=⟨_,rfl⟩;have UR:ROW.size=G*2:=by
  rw[sV,Array.size_append,Array.size_append,size_zeroCells,size_zeroCells,Mr];simp;omega
 have JG:ROW.toList.take (i*2)=xs.take (i*2):=by
  rw[sV,Array.toList_append,Array.toList_append,List.append_assoc,List.take_append_of_le_length (by simp;omega),List.take_of_length_le (by simp;omega)]
 have Ms:∀ty,(Builtin.append_ #[41,3] ty #[.slice (some ⟨g,0,none⟩) i cap,.int .i64 ((l.length:Int)+1-(i:Int))]).run Tryz.prog w=
  .ok (.slice (some ⟨w.heap.size,0,none⟩) (l.length+1) G) (w.drew.alloc (.cells ROW 148)):=fun ty=>by
  have h:=Lib.run_append_grow_zeros w 41 3 ty 148 i0 z .i64 .i64 Tryz.underlying41 Tryz.underlying3 CJ hz (some ⟨g,0,none⟩) i cap (xs.take (i*2)) hold (l.length+1-i) (by omega) (by rw[lM];omega) (by omega) (by omega) (by rw[oW];omega) (by rw[oW,show i+(l.length+1-i)=l.length+1 by omega];exact growslice_fits lY eU);rw[show i+(l.length+1-i)=l.length+1 by omega,←hG,←sV]at h;rw[show(l.length:Int)+1-(i:Int)=((l.length+1-i:Nat):Int) by omega];exact h
 obtain⟨gB,kE⟩:∃c,c=over ROW (i*2) news:=⟨_,rfl⟩;have sQ:gB.size=ROW.size:=by rw[kE];exact yx _ _ _ (by omega)
 obtain⟨lD,lg⟩:∃c,c=over gB (i*2+2) (xs.drop (i*2)):=⟨_,rfl⟩;have IW:lD.size=gB.size:=by rw[lg];exact yx _ _ _ (by rw[List.length_drop];omega)
 have jG:lD.toList.take ((l.length+1)*2)=xs.take (i*2)++news++xs.drop (i*2):=by
  have:=Wz ROW xs news (i*2) 2 (by omega) JG sU (by omega);rw[←kE,←lg]at this;rw[show(l.length+1)*2=xs.length+2 by omega];exact this
 obtain⟨W1,lZ⟩:∃W1,W1=w.drew.alloc (.cells ROW 148):=⟨_,rfl⟩;have Gl:W1.heap[w.heap.size]?=some (.cells ROW 148 (0,0)):=by rw[lZ];exact heap_alloc_new w.drew _
 have Gm:∀b,b<w.heap.size→W1.heap[b]?=w.heap[b]? :=fun b hb=>by rw[lZ];exact Below.heap_alloc w.drew _ b hb
 rw[←lZ]at Ms;have Gn:∀ty dc,(Builtin.copy_ #[41,41] ty #[.slice (some ⟨w.heap.size,i*2,none⟩) (l.length+1-i) dc,.slice (some ⟨vb,0,none⟩) 1 1]).run Tryz.prog W1= .ok (goInt 1) (W1.setRow w.heap.size gB):=fun ty dc=>by
  have h:=AC (P:=Tryz.prog) W1 41 41 ty 148 2 w.heap.size (i*2) (l.length+1-i) dc ⟨vb,0,none⟩ 1 1 ROW 148 news Tryz.underlying41 cu Gl (by rw[sU];simp only[Nat.min_def];split<;>omega)
   (fun j u hj=>by
     rw[Addr.add_lit,Nat.zero_add,cell_of_row _ vb j _ _ _ ((Gm vb UN).trans kR)];simpa using hj) (by omega) yQ
  rw[h,show Nat.min 1 (l.length+1-i)=1 by simp only[Nat.min_def];split<;>omega,kE];rfl
 have EC:(W1.setRow w.heap.size gB).heap[w.heap.size]?=some (.cells gB 148 (0,0)):=setRow_heap W1 w.heap.size ROW gB _ _ Gl;have Gp:∀ty dc sc,(Builtin.copy_ #[41,41] ty #[.slice (some ⟨w.heap.size,(i+1)*2,none⟩) (l.length-i) dc,.slice (some ⟨g,i*2,none⟩) (l.length-i) sc]).run Tryz.prog (W1.setRow w.heap.size gB).drew= .ok (goInt ((l.length-i:Nat):Int)) ((W1.setRow w.heap.size gB).drew.setRow w.heap.size lD):=fun ty dc sc=>by
  have h:=AC (P:=Tryz.prog) (W1.setRow w.heap.size gB).drew 41 41 ty 148 2 w.heap.size ((i+1)*2) (l.length-i) dc ⟨g,i*2,none⟩ (l.length-i) sc gB 148 (xs.drop (i*2)) Tryz.underlying41 cu EC (by rw[List.length_drop];simp only[Nat.min_def];split<;>omega)
   (fun j u hj=>by
     rw[Addr.add_lit];rw[List.getElem?_drop]at hj;have UT:(W1.setRow w.heap.size gB).heap[g]?=some (.cells cur 148 (0,0)):=by rw[setRow_other _ _ _ _ (by omega),Gm g UM];exact hg
     rw[World.cell?_drew,cell_of_row _ g _ cur _ _ UT,←cell_of_row w g _ cur _ _ hg];exact mg _ u hj) (by rw[List.length_drop];omega) (fun u hu=>hL.oneCell u (List.mem_of_mem_drop hu))
  rw[h,show Nat.min (l.length-i) (l.length-i)=l.length-i by simp only[Nat.min_def];split<;>omega,lg];rw[show(i+1)*2=i*2+2 by omega];rfl
 have wz:=Qh (show(xs.take (i*2)++news++xs.drop (i*2)).length=(l.length+1)*2 by simp;omega);have za:=Qh (show lD.size=G*2 by omega);have pz:=Qh jG;have HL:=Qh hL;have Hx:=Qh hx;have Ql:=Qh EC;have UU:=Qh lZ;have aG:¬(G=i+1):=by omega
 have aP:¬(G=i):=by omega
 have fu:¬(cap=i):=by omega
 clear jG hL hx EC Gl kE lg sV UR JG mI pu fK iw qo jC sU yQ kR wu hg hold mg Gm lZ hG hz nN Mr sQ IW;have Ei:IntKind.i64.wrap ((i:Int)+1)=(i:Int)+1:=IntWalk.i64_in _ (by omega);have Mo:0≤(i:Int)+1:=by omega
 have Ao:((i:Int)+1).toNat=i+1:=by omega
 have Mq:i≤l.length:=by omega
 have GY:(i:Int)≤(l.length:Int)+1:=by omega
 go_enter Tryz.func94,Tryz.ntmps94
 go_wp2_with (first
  |(at_builtin;refine Lib.wpList_append_run _ rfl _ _ _ _ rfl _ _ rfl rfl _ _ (Ms _) ?_)
  |(at_builtin;refine wpList_copy_runI _ rfl _ _ 41 41 rfl _ _ rfl rfl (Gn _ _) ?_))
 go_region_law (refine step_copy_runI rfl _ _ 41 41 rfl _ _ (by simp[Act.eval,Act.put]) (by simp[Act.eval,Act.put]) (Gp _ _ _) ?_)
 go_wp2;go_ret;have CK:(l.take i++x::l.drop i).length=l.length+1:=by simp;omega
 refine⟨_,rfl,?_,?_⟩
 ·unfold aN;rw[CK];refine⟨xs.take (i*2)++news++xs.drop (i*2),⟨wz.q,.inr ⟨w.heap.size,G,lD,rfl,hB,setRow_heap _ w.heap.size gB lD _ _ Ql.q,UO,by unfold maxLen;omega,za.q,pz.q⟩⟩,?_⟩;have:=((HL.q.take i).append (bB.one Hx.q)).append (HL.q.drop i);rwa[show l.take i++[x]++l.drop i=l.take i++x::l.drop i by simp]at this
 ·rw[UU.q];exact⟨rfl,rfl,rfl,by simp,fun k hk _=>by
   rw[setRow_other _ _ _ _ (by omega)];show((w.drew.alloc (.cells ROW 148)).setRow w.heap.size gB).heap[k]?=_;rw[setRow_other _ _ _ _ (by omega)];exact Below.heap_alloc w.drew _ k hk⟩
theorem WB(I:IH)(B:Nat)(v:Value)(l:List _)(x:_)(vb i:Nat)(tb:TypeId)(news:List Value)(w:World)(hv:aN jh 148 I w B v l)(hx:jh.rd I news x)
 (kR:w.heap[vb]?=some (.cells news.toArray tb (0,0))) (aZ:v.ownBlock≠some vb) (hi:i≤l.length) (eU:(l.length+1)*24≤140737488355328) (hB:B≤w.heap.size):
 Calls Tryz.prog 94 #[v,.int .i64 i,.slice (some ⟨vb,0,none⟩) 1 1] w fun e w'=> ∃v',e= .returned v'∧aN jh 148 I w' B v' (l.take i++x::l.drop i)∧w.grownBy w' v.ownBlock:=by
 by_cases he:i=l.length
 ·subst he;rw[List.take_length,List.drop_length];exact Xhm I B v l x vb news w hv hx (fun j u hj=>by rw[cell_of_row w vb j _ _ _ kR];simpa using hj) eU hB
 ·have nJ:∃g cap,v= .slice (some ⟨g,0,none⟩) l.length cap∧cap≤maxLen:=by
   obtain⟨xs,⟨_,bM⟩,_⟩:=hv;rcases bM with⟨_,h⟩|⟨g,cap,cur,h1,_,_,_,h3,_⟩
   ·omega
   ·exact⟨g,cap,h1,h3⟩
  obtain⟨g,cap,rfl,gV⟩:=nJ;by_cases hr:l.length+1≤cap
  ·exact Xfr I B g cap i l x vb tb news w hv hx kR (fun e=>aZ (by rw[e];rfl)) (by omega) hr (by unfold maxLen at gV;omega)
  ·exact Xgg I B g cap i l x vb tb news w hv hx kR (by omega) (by omega) eU hB
theorem WC(h:Ho):∀{l:List Ho},l.any (fun x=>decide (0<kF x.p h.p))=false→l9 h l=l.take l.length++h::l.drop l.length
 | [],_=>rfl
 |x::l,hn=>by
  rw[List.any_cons,Bool.or_eq_false_iff]at hn;have hx:ic (els h.p) (els x.p)=false:=by
   have:=of_decide_eq_false hn.1;cases k:ic (els h.p) (els x.p)with
   |false=>rfl
   |true=>
    exfalso;apply this;unfold kF;rw[PE k,k];simp
  rw[l9,if_neg (by simp[hx]),WC h hn.2];simp
theorem WE(h:Ho):∀{l:List Ho} {i:Nat} (hi:i<l.length),decide (0<kF l[i].p h.p)=true→(l.take i).any (fun x=>decide (0<kF x.p h.p))=false→l9 h l=l.take i++h::l.drop i
 | [],_,hi,_,_=>absurd hi (by simp)
 |x::l,0,_,hp,_=>by
  have hx:ic (els h.p) (els x.p)=true:=by
   have:=of_decide_eq_true hp;have h2:0<kF x.p h.p:=this;unfold kF at h2;split at h2
   ·omega
   ·split at h2
    ·assumption
    ·omega
  rw[l9,if_pos hx];rfl
 |x::l,i+1,hi,hp,hn=>by
  rw[List.take_succ_cons,List.any_cons,Bool.or_eq_false_iff]at hn;have hx:ic (els h.p) (els x.p)=false:=by
   have:=of_decide_eq_false hn.1;cases k:ic (els h.p) (els x.p)with
   |false=>rfl
   |true=>
    exfalso;apply this;unfold kF;rw[PE k,k];simp
  rw[l9,if_neg (by simp[hx]),WE h (l:=l) (by simpa using hi) hp hn.2];rfl
theorem Xjs{p:af}{l:List Ho}{k:Nat}{cur U:Int}{x:Ho}(hk:k<l.length)(hx:l[k]=x)(h:ig p (l.drop k) cur=U):ig p (l.drop (k+1)) (if x.p=p then max cur x.u else cur)=U:=by
 rw[List.drop_eq_getElem_cons hk,hx,ig]at h;exact h
theorem Xo3{l:List Ho}{e:aQ}{d:Int}(hk:e.aj=5):appH l e d=(l9 ⟨e.ag,ig e.ag (bO l d) (digits e.av)⟩ (jq (bO l d) e.ag),0):=by rw[appH,if_pos hk]
theorem Xqw{l:List Ho}{e:aQ}{d:Int}(hk:e.aj=6)(h:(jq (bO l d) e.ag).length≠(bO l d).length):appH l e d=(jq (bO l d) e.ag,0):=by
 rw[appH,if_neg (by omega),if_pos hk,if_pos];cases hh:Bv (bO l d) e.ag with
 |true=>rfl
 |false=>exact absurd (ui.2 hh) h
theorem Xo2{l:List Ho}{e:aQ}{d:Int}(hk:e.aj=6)(h:(jq (bO l d) e.ag).length=(bO l d).length):appH l e d=([],9):=by
 rw[appH,if_neg (by omega),if_pos hk,if_neg];rw[ui.1 h];simp
theorem Xqy{l:List Ho}{e:aQ}{d:Int}(h5:e.aj≠5)(h6:e.aj≠6):appH l e d=(bO l d,0):=by
 rw[appH,if_neg h5,if_neg h6]
theorem WG(h:eH s=true):s.length≤10:=by
 unfold eH at h;simp only[Bool.and_eq_true,decide_eq_true_eq]at h;exact h.1.1.1.2
theorem Nr(p:af)(b:Nat)(l:List Ho)(w:World)(hc:w.cell? ⟨b,1,none⟩=some (S p)):om 90 #[.pointer (some ⟨b,0,none⟩)] l (fun h=> !(h.p==p)) (Below w.heap.size w):=by
 intro x hx W hW;have Gg:=jH (.cells #[S x.p,.int .i64 x.u] 148) (bI hW hc);clear hc;show Calls Tryz.prog _ #[GU x,.pointer (some ⟨b,0,none⟩)] W _;go_enter Tryz.func90,Tryz.ntmps90
 go_wp2;go_ret;exact⟨rfl,(Qb _ _).alloc (Qn _) _⟩
theorem Xni(I:IH)(hI:cB I)(p:af)(hp:p.length≤4294967280)(b:Nat)(l:List Ho)(hl:∀h∈l,h.p.length≤4294967280)(w:World)(hw:Ok I w)(hc:w.cell? ⟨b,1,none⟩=some (S p)):om 93 #[.pointer (some ⟨b,0,none⟩)] l (fun h=>decide (0<kF h.p p)) (Below w.heap.size w):=by
 intro x hx W hW;have Hu:=Qh (PX I hI x.p p (hl x hx) hp (W.alloc (.cells #[S x.p,.int .i64 x.u] 148)) ((hw.below (Qn _) hW).alloc _));have Gg:=jH (.cells #[S x.p,.int .i64 x.u] 148) (bI hW hc);clear hc;show Calls Tryz.prog _ #[GU x,.pointer (some ⟨b,0,none⟩)] W _;go_enter Tryz.func93,Tryz.ntmps93
 go_wp2_with fail
 refine Hu.q.mono ?_;rintro e w1 ⟨rfl,aG⟩;go_wp2;go_ret;exact⟨rfl,((Qb _ _).alloc (Qn _) _).trans (aG.mono (by simp))⟩
theorem Qm(I:IH)(hI:cB I)(v:Value)(l:List Ho)(hv:aY jh I v l)(hk:rU l)(hn:l.length≤100000)(e:aQ)(va vx:Value)(gW:aY lv I va e.au)(j6:aY kQ I vx e.aD)(he:aL e=0)(d:Int)(w:World)(hw:Ok I w):
 Calls Tryz.prog 39 #[v,fG e va vx,.int .i64 d] w (Ep jh I w (appH l e d).1 (appH l e d).2):=by
 have Ha:=Qh (fun w hw=>JD I v l hv hn d w hw);have HG:=Qh hI;have nO:e.ag.length≤4294967280:=by have:=(CY (De he).2.2.1).1;omega
 have Hd:=Qh (fun h5=>Wj he h5);have HE:=Qh (@Xo3 l e d);have HR:=Qh (@Xqw l e d);have HM:=Qh (@Xo2 l e d);have HL:=Qh (@Xqy l e d);have wB:(bO l d).length≤100000:=Nat.le_trans (List.length_filter_le _ _) hn;have Hka:=Qh (hk.act d);have IX:(jq (bO l d) e.ag).length≤(bO l d).length:=List.length_filter_le _ _;have WH:=Qh ((hk.act d).rest e.ag);have kZ:(bO l d).filter (fun h=> !(h.p==e.ag))=jq (bO l d) e.ag:=rfl;obtain⟨ao,cap,rfl,dM,gV,_⟩:=id hv;obtain⟨aa,ca,rfl,_,_,_⟩:=id gW;obtain⟨ax,cx,rfl,_,_,_⟩:=id j6;clear hv gW j6 hI hk he;generalize CL:jq (bO l d) e.ag=rest at IX WH kZ HE HR HM;generalize hac:bO l d=act at Ha wB Hka IX kZ HE HR HM HL;have wJ:=Qh kZ;clear CL hac kZ;by_cases h5:e.aj=5;case neg=>
  have k5:((e.aj:Int)==5)=false:=by simpa using h5
  by_cases h6:e.aj=6;case neg=>
   have k6:((e.aj:Int)==6)=false:=by simpa using h6
   have Hn:=Qh (HL.q h5 h6);clear h5 h6;go_enter Tryz.func39,Tryz.ntmps39
   go_wp2_with fail
   refine(Ha.q _ (hw.alloc _)).mono ?_;rintro e1 w1 ⟨v1,rfl,gN,aG⟩;have lX:=Qh (eO (e:=e) rfl aG);have kP:Ok I w1:=(hw.alloc _).below (Qn _) aG;have bW:w.heap.size<w1.heap.size:=by have:=aG.size;simp at this;omega
   have jg:∀b,w.heap.size≤b→I b=none:=fun b hb=>hw.fresh hb;have aO:=((Qb w.heap.size w).alloc (Qn _) (.cells #[.int .i64 e.aj,S e.ag,.slice aa e.au.length ca,S e.av,.int .i64 e.size,S e.aI,.slice ax e.aD.length cx] 81)).trans (aG.mono (by simp));obtain⟨I1,jA,aS,jX,_⟩:=(gN.lower (show w.heap.size≤_ by simp)).freeze kP jg;have El:=Qh jA;have zf:=Qh jX;have Ns:=Qh (HG.q.mono (jA.keep hw (Qn _)));have Hs:=Qh (JB I1 v1 act jX wB _ _ _ w1 aS (fun _ _=>by kernel_rfl) (Nr e.ag w.heap.size act w1 lX.q.c1));obtain⟨a1,Qo,rfl,ww,Gq,_⟩:=id jX;clear gN aG jg jX jA kP;go_wp2_with fail
   refine Hs.q.mono ?_;rintro e2 w2 ⟨v2,rfl,gP,aP⟩;rw[wJ.q]at gP;have pE:∀b,w1.heap.size≤b→I1 b=none:=fun b hb=>aS.fresh hb;have pF:=Qh pE;have bC:Ok I1 w2:=aS.below (Qn _) aP;have qw:=Qh (lX.q.aX aP);have bS:=aO.trans (aP.mono aO.size);have fw:w1.heap.size≤w2.heap.size:=aP.size;clear aP aO lX aS Hs pE;obtain⟨I2,kL,rC,iB,_⟩:=gP.freeze bC pF.q;have uo:=Qh gP;have O8:=Qh kL;have zg:=Qh iB;obtain⟨a2,cp2,rfl,wy,uN,_⟩:=id iB;clear gP iB kL;obtain⟨c0,c1,c2,c3,c4,c5,c6⟩:=qw.q;go_wp2;go_ret2;rw[Hn.q];exact⟨_,I1,rfl,bS,El.q,bC,zf.q⟩
  have k6:((e.aj:Int)==6)=true:=by simpa using h6
  by_cases F7:rest.length=act.length
  ·have Hn:=Qh (HM.q h6 F7);have q1:((rest.length:Int)==act.length)=true:=by rw[F7];simp
   clear h5 h6 F7;go_enter Tryz.func39,Tryz.ntmps39
   go_wp2_with fail
   refine(Ha.q _ (hw.alloc _)).mono ?_;rintro e1 w1 ⟨v1,rfl,gN,aG⟩;have lX:=Qh (eO (e:=e) rfl aG);have kP:Ok I w1:=(hw.alloc _).below (Qn _) aG;have bW:w.heap.size<w1.heap.size:=by have:=aG.size;simp at this;omega
   have jg:∀b,w.heap.size≤b→I b=none:=fun b hb=>hw.fresh hb;have aO:=((Qb w.heap.size w).alloc (Qn _) (.cells #[.int .i64 e.aj,S e.ag,.slice aa e.au.length ca,S e.av,.int .i64 e.size,S e.aI,.slice ax e.aD.length cx] 81)).trans (aG.mono (by simp));obtain⟨I1,jA,aS,jX,_⟩:=(gN.lower (show w.heap.size≤_ by simp)).freeze kP jg;have El:=Qh jA;have zf:=Qh jX;have Ns:=Qh (HG.q.mono (jA.keep hw (Qn _)));have Hs:=Qh (JB I1 v1 act jX wB _ _ _ w1 aS (fun _ _=>by kernel_rfl) (Nr e.ag w.heap.size act w1 lX.q.c1));obtain⟨a1,Qo,rfl,ww,Gq,_⟩:=id jX;clear gN aG jg jX jA kP;go_wp2_with fail
   refine Hs.q.mono ?_;rintro e2 w2 ⟨v2,rfl,gP,aP⟩;rw[wJ.q]at gP;have pE:∀b,w1.heap.size≤b→I1 b=none:=fun b hb=>aS.fresh hb;have pF:=Qh pE;have bC:Ok I1 w2:=aS.below (Qn _) aP;have qw:=Qh (lX.q.aX aP);have bS:=aO.trans (aP.mono aO.size);have fw:w1.heap.size≤w2.heap.size:=aP.size;clear aP aO lX aS Hs pE;obtain⟨I2,kL,rC,iB,_⟩:=gP.freeze bC pF.q;have uo:=Qh gP;have O8:=Qh kL;have zg:=Qh iB;obtain⟨a2,cp2,rfl,wy,uN,_⟩:=id iB;clear gP iB kL;obtain⟨c0,c1,c2,c3,c4,c5,c6⟩:=qw.q;go_wp2;go_ret2;rw[Hn.q];exact⟨_,I1,rfl,bS,El.q,bC,aY.nil _ _⟩
  ·have Hn:=Qh (HR.q h6 F7);have q1:((rest.length:Int)==act.length)=false:=by
    have:((rest.length:Int))≠act.length:=by omega
    simpa using this
   clear h5 h6 F7;go_enter Tryz.func39,Tryz.ntmps39
   go_wp2_with fail
   refine(Ha.q _ (hw.alloc _)).mono ?_;rintro e1 w1 ⟨v1,rfl,gN,aG⟩;have lX:=Qh (eO (e:=e) rfl aG);have kP:Ok I w1:=(hw.alloc _).below (Qn _) aG;have bW:w.heap.size<w1.heap.size:=by have:=aG.size;simp at this;omega
   have jg:∀b,w.heap.size≤b→I b=none:=fun b hb=>hw.fresh hb;have aO:=((Qb w.heap.size w).alloc (Qn _) (.cells #[.int .i64 e.aj,S e.ag,.slice aa e.au.length ca,S e.av,.int .i64 e.size,S e.aI,.slice ax e.aD.length cx] 81)).trans (aG.mono (by simp));obtain⟨I1,jA,aS,jX,_⟩:=(gN.lower (show w.heap.size≤_ by simp)).freeze kP jg;have El:=Qh jA;have zf:=Qh jX;have Ns:=Qh (HG.q.mono (jA.keep hw (Qn _)));have Hs:=Qh (JB I1 v1 act jX wB _ _ _ w1 aS (fun _ _=>by kernel_rfl) (Nr e.ag w.heap.size act w1 lX.q.c1));obtain⟨a1,Qo,rfl,ww,Gq,_⟩:=id jX;clear gN aG jg jX jA kP;go_wp2_with fail
   refine Hs.q.mono ?_;rintro e2 w2 ⟨v2,rfl,gP,aP⟩;rw[wJ.q]at gP;have pE:∀b,w1.heap.size≤b→I1 b=none:=fun b hb=>aS.fresh hb;have pF:=Qh pE;have bC:Ok I1 w2:=aS.below (Qn _) aP;have qw:=Qh (lX.q.aX aP);have bS:=aO.trans (aP.mono aO.size);have fw:w1.heap.size≤w2.heap.size:=aP.size;clear aP aO lX aS Hs pE;obtain⟨I2,kL,rC,iB,_⟩:=gP.freeze bC pF.q;have uo:=Qh gP;have O8:=Qh kL;have zg:=Qh iB;obtain⟨a2,cp2,rfl,wy,uN,_⟩:=id iB;clear gP iB kL;obtain⟨c0,c1,c2,c3,c4,c5,c6⟩:=qw.q;go_wp2;go_ret2;rw[Hn.q];exact⟨_,I2,rfl,bS,El.q.trans O8.q (Nat.le_of_lt bW),rC,zg.q⟩
 have k5:((e.aj:Int)==5)=true:=by simpa using h5
 have Hn:=Qh (HE.q h5);have sO:e.av.length≤4294967280:=by
  have hh:=(WA (Hd.q h5)).2.2.2;have h1:=WG (Hd.q h5);omega
 have JH:=Qh (fun w=>Xnh e.av sO (Hd.q h5) w);obtain⟨d0,Mt⟩:∃d0,digits e.av=d0:=⟨_,rfl⟩;obtain⟨U,hU⟩:∃U,ig e.ag act d0=U:=⟨_,rfl⟩;rw[Mt]at JH Hn;rw[hU]at Hn;have HU:=Qh hU;clear h5 Mt sO hU;go_enter Tryz.func39,Tryz.ntmps39
 go_wp2_with fail
 refine(Ha.q _ (hw.alloc _)).mono ?_;rintro e1 w1 ⟨v1,rfl,gN,aG⟩;have lX:=Qh (eO (e:=e) rfl aG);have kP:Ok I w1:=(hw.alloc _).below (Qn _) aG;have bW:w.heap.size<w1.heap.size:=by have:=aG.size;simp at this;omega
 have jg:∀b,w.heap.size≤b→I b=none:=fun b hb=>hw.fresh hb;have aO:=((Qb w.heap.size w).alloc (Qn _) (.cells #[.int .i64 e.aj,S e.ag,.slice aa e.au.length ca,S e.av,.int .i64 e.size,S e.aI,.slice ax e.aD.length cx] 81)).trans (aG.mono (by simp));obtain⟨I1,jA,aS,jX,_⟩:=(gN.lower (show w.heap.size≤_ by simp)).freeze kP jg;have El:=Qh jA;have zf:=Qh jX;have Ns:=Qh (HG.q.mono (jA.keep hw (Qn _)));have Hs:=Qh (JB I1 v1 act jX wB _ _ _ w1 aS (fun _ _=>by kernel_rfl) (Nr e.ag w.heap.size act w1 lX.q.c1));obtain⟨a1,Qo,rfl,ww,Gq,_⟩:=id jX;clear gN aG jg jX jA kP;go_wp2_with fail
 refine Hs.q.mono ?_;rintro e2 w2 ⟨v2,rfl,gP,aP⟩;rw[wJ.q]at gP;have pE:∀b,w1.heap.size≤b→I1 b=none:=fun b hb=>aS.fresh hb;have pF:=Qh pE;have bC:Ok I1 w2:=aS.below (Qn _) aP;have qw:=Qh (lX.q.aX aP);have bS:=aO.trans (aP.mono aO.size);have fw:w1.heap.size≤w2.heap.size:=aP.size;clear aP aO lX aS Hs pE;obtain⟨I2,kL,rC,iB,_⟩:=gP.freeze bC pF.q;have uo:=Qh gP;have O8:=Qh kL;have zg:=Qh iB;obtain⟨a2,cp2,rfl,wy,uN,_⟩:=id iB;clear gP iB kL;obtain⟨c0,c1,c2,c3,c4,c5,c6⟩:=qw.q;go_wp2_with fail
 refine(JH.q _).mono ?_;rintro e3 w3 ⟨rfl,fu⟩;have il:Ok I1 w3:=bC.below (Qn _) fu;have Dl:Ok I2 w3:=rC.below (Qn _) fu;have yS:=Qh (qw.q.aX fu);have Dm:=Qh (uo.q.below fu);have mW:w2.heap.size≤w3.heap.size:=fu.size;have mR:=bS.trans (fu.mono bS.size);clear c0 c1 c2 c3 c4 c5 c6 qw uo bC rC fu bS;go_wp2_with fail
 go_loopw [10,35] (fun s10 Qp wr=> ∃(k:Nat) (cur:Int),k≤act.length∧s10= .int .i64 cur∧Qp= .int .i64 k∧ig e.ag (act.drop k) cur=U∧Below w3.heap.size w3 wr) (fun _ i _=>act.length-(intOf i).toNat)
 case atStart=>exact⟨0,d0,Nat.zero_le _,rfl,rfl,HU.q,Qb _ _⟩
 case round=>
  obtain⟨k,cur,hk,rfl,rfl,hu,hb⟩:=hrel;have Hu:=Qh hu;clear hu;by_cases hlt:k<act.length
  ·obtain⟨x,b,off,cap',dz,dC,x0,x1⟩:=yZ zf.q (il.below (Qn _) hb) k hlt;cases dC;have bT:=Qh (Xjs hlt dz Hu.q);obtain⟨c0,c1,c2,c3,c4,c5,c6⟩:=yS.q.aX hb;have c1':=jH (.cells #[S x.p,.int .i64 x.u] 148) c1;clear dz Hu c0 c1 c2 c3 c4 c5 c6;cases hq:(x.p==e.ag)
   ·have rW:=Qh (show ig e.ag (act.drop (k+1)) cur=U by have:=bT.q;rwa[if_neg (by simpa using hq)]at this);clear bT;go_wp2;go_roundw;case rel=>exact⟨k+1,cur,by omega,rfl,by go_num,rW.q,hb.alloc hb.size _⟩
    case measure=>simp[intOf];omega
   ·have rW:=Qh (show ig e.ag (act.drop (k+1)) (max cur x.u)=U by have:=bT.q;rwa[if_pos (by simpa using hq)]at this);clear bT;go_wp2;go_roundw;case rel=>exact⟨k+1,max cur x.u,by omega,rfl,by go_num,rW.q,hb.alloc hb.size _⟩
    case measure=>simp[intOf];omega
  ·have nS:cur=U:=by have:=Hu.q;rwa[List.drop_of_length_le (by omega)]at this
   subst nS;have Mv:Ok I2 wr:=Dl.below (Qn _) hb;have uq:Ok I1 wr:=il.below (Qn _) hb;have JI:=Qh (yS.q.aX hb);have wK:=Qh (Dm.q.below hb);have xG:=mR.trans (hb.mono mR.size);have ad1:w3.heap.size≤wr.heap.size:=hb.size;have xH:=Qh (Wl I2 _ rest zg.q _ _ _ wr Mv (fun _ _=>by kernel_rfl) (Xni I1 Ns.q e.ag nO w.heap.size rest WH.q.short wr uq JI.q.c1));have fK:=GQ rest (fun h=>decide (0<kF h.p e.ag));clear Hu hb mR yS Dm il Dl Mv;rcases fK with⟨i,hi,e1,e2,e3⟩|⟨e1,e2⟩
   ·rw[e1]at xH;have Hi:=Qh (WE ⟨e.ag,cur⟩ hi e2 e3);clear e1 e2 e3;go_wp2_with fail
    refine xH.q.mono ?_;rintro e5 w5 ⟨rfl,dm⟩;have dR:=uq.below (Qn _) dm;have qD:=Qh (JI.q.aX dm);have kT:=Qh (wK.q.below dm);have dG:=xG.trans (dm.mono xG.size);have jR:wr.heap.size≤w5.heap.size:=dm.size;obtain⟨c0,c1,c2,c3,c4,c5,c6⟩:=qD.q;clear dm xG JI wK uq c0 c2 c3 c4 c5 c6;have aZ:=kT.q.wE (Qn w5.heap.size);have zh:=Qh (WB I1 w1.heap.size _ rest ⟨e.ag,cur⟩ w5.heap.size i 148 [S e.ag,.int .i64 cur] _ (kT.q.alloc (.cells #[S e.ag,.int .i64 cur] 148)) rfl (heap_alloc_new w5 (.cells #[S e.ag,.int .i64 cur] 148)) aZ (by omega) (by omega) (by simp;omega));clear aZ;go_wp2_with fail
    refine zh.q.mono ?_;rintro e8 w8 ⟨v8,rfl,kr,uW⟩;have uu:=Qh kr;have Dn:=Qh uW;clear kr uW;go_wp2;go_ret2;have jS:=kT.q.alloc (.cells #[S e.ag,.int .i64 cur] 148);have oQ:=Below.own (dG.alloc dG.size _) Dn.q jS (Nat.le_of_lt bW) (by simp;omega);have iC:Ok I1 w8:=Ok.own (dR.alloc _) Dn.q jS pF.q;obtain⟨I',jA,kL,oo,_⟩:=uu.q.freeze iC pF.q;rw[Hn.q];exact⟨_,I',rfl,oQ,El.q.trans jA (Nat.le_of_lt bW),kL,by rw[Hi.q];exact oo⟩
   ·rw[e1]at xH;have Hi:=Qh (WC ⟨e.ag,cur⟩ e2);clear e1 e2;go_wp2_with fail
    refine xH.q.mono ?_;rintro e5 w5 ⟨rfl,dm⟩;have dR:=uq.below (Qn _) dm;have qD:=Qh (JI.q.aX dm);have kT:=Qh (wK.q.below dm);have dG:=xG.trans (dm.mono xG.size);have jR:wr.heap.size≤w5.heap.size:=dm.size;obtain⟨c0,c1,c2,c3,c4,c5,c6⟩:=qD.q;clear dm xG JI wK uq c0 c2 c3 c4 c5 c6;have aZ:=kT.q.wE (Qn w5.heap.size);have zh:=Qh (WB I1 w1.heap.size _ rest ⟨e.ag,cur⟩ w5.heap.size rest.length 148 [S e.ag,.int .i64 cur] _ (kT.q.alloc (.cells #[S e.ag,.int .i64 cur] 148)) rfl (heap_alloc_new w5 (.cells #[S e.ag,.int .i64 cur] 148)) aZ (by omega) (by omega) (by simp;omega));clear aZ;go_wp2_with fail
    refine zh.q.mono ?_;rintro e8 w8 ⟨v8,rfl,kr,uW⟩;have uu:=Qh kr;have Dn:=Qh uW;clear kr uW;go_wp2;go_ret2;have jS:=kT.q.alloc (.cells #[S e.ag,.int .i64 cur] 148);have oQ:=Below.own (dG.alloc dG.size _) Dn.q jS (Nat.le_of_lt bW) (by simp;omega);have iC:Ok I1 w8:=Ok.own (dR.alloc _) Dn.q jS pF.q;obtain⟨I',jA,kL,oo,_⟩:=uu.q.freeze iC pF.q;rw[Hn.q];exact⟨_,I',rfl,oQ,El.q.trans jA (Nat.le_of_lt bW),kL,by rw[Hi.q];exact oo⟩
end Go.Proofs.YtmdfjnhfhidmhaaGreatDoor
namespace Go.Proofs
open Go.Shelf
def Tryz.oq:Go.Shelf.Ren:=⟨fun|169=>156|n=>n,fun|70=>201|9=>9|0=>0|72=>203|37=>93|127=>233|3=>3|5=>5|n=>n,fun|n=>n⟩
theorem Tryz.BB:Go.Proofs.Lays.n169 Tryz.prog Tryz.oq:={
 mixed:=by kernel_rfl
 f169:=Tryz.func156.trans (congrArg some (by kernel_rfl))
 t0:=Tryz.underlying0
 a0:=Tryz.isAgg0
 z0:=Tryz.sizeOf0
 v0:=Tryz.zeroValue0
 t3:=Tryz.underlying3
 a3:=Tryz.isAgg3
 z3:=Tryz.sizeOf3
 v3:=Tryz.zeroValue3
 t9:=Tryz.underlying9
 a9:=Tryz.isAgg9
 z9:=Tryz.sizeOf9
 v9:=Tryz.zeroValue9
 t37:=Tryz.underlying93
 a37:=Tryz.isAgg93
 z37:=Tryz.sizeOf93
 v37:=Tryz.zeroValue93
 t70:=Tryz.underlying201
 a70:=Tryz.isAgg201
 z70:=Tryz.sizeOf201
 v70:=Tryz.zeroValue201
 t72:=Tryz.underlying203
 a72:=Tryz.isAgg203
 z72:=Tryz.sizeOf203
 v72:=Tryz.zeroValue203
 t127:=Tryz.underlying233
 a127:=Tryz.isAgg233
 z127:=Tryz.sizeOf233
 v127:=Tryz.zeroValue233}
theorem Tryz.mX:Builder.Extra Tryz.prog Tryz.oq:={
 sizeBuilder:=by kernel_rfl
 liesBuilder:=by kernel_rfl
 t5:=Tryz.underlying5
 a5:=Tryz.isAgg5
 z5:=Tryz.sizeOf5
 v5:=Tryz.zeroValue5
 infoByte:=by kernel_rfl
 cellsByte:=by kernel_rfl
 sizeByte:=by kernel_rfl
 neB5:=by decide}
open Go.RowKit in
theorem Tryz.Builder_String_any(B b:Nat)(l:List UInt8)(w:World)(h:Lib.IsBuilder 203 5 B b (Lib.byteCells l) w)(vz:B≤w.heap.size):
 Calls Tryz.prog 156 #[.pointer (some ⟨b,0,none⟩)] w fun e w'=>e= .returned (.string ⟨l.toArray⟩)∧Below B w w':=Any.Builder_String_any Tryz.BB Tryz.mX B b l w h vz
def Tryz.ow:Go.Shelf.Ren:=⟨fun|105=>162|212=>208|99=>209|165=>181|166=>152|170=>210|169=>156|263=>246|264=>247|206=>248|240=>200|241=>222|276=>240|277=>252|n=>n,fun|9=>9|3=>3|4=>4|20=>20|0=>0|46=>186|109=>244|5=>5|72=>203|76=>192|51=>58|146=>273|53=>210|148=>275|70=>201|37=>93|75=>191|127=>233|164=>268|80=>205|n=>n,fun|n=>n⟩
theorem Tryz.BC:Go.Proofs.Lays.n105 Tryz.prog Tryz.ow:={
 mixed:=by kernel_rfl
 f99:=Tryz.func209.trans (congrArg some (by kernel_rfl))
 f105:=Tryz.func162.trans (congrArg some (by kernel_rfl))
 f165:=Tryz.func181.trans (congrArg some (by kernel_rfl))
 f166:=Tryz.func152.trans (congrArg some (by kernel_rfl))
 f169:=Tryz.func156.trans (congrArg some (by kernel_rfl))
 f170:=Tryz.func210.trans (congrArg some (by kernel_rfl))
 f206:=Tryz.func248.trans (congrArg some (by kernel_rfl))
 f212:=Tryz.func208.trans (congrArg some (by kernel_rfl))
 f240:=Tryz.func200.trans (congrArg some (by kernel_rfl))
 f241:=Tryz.func222.trans (congrArg some (by kernel_rfl))
 f263:=Tryz.func246.trans (congrArg some (by kernel_rfl))
 f264:=Tryz.func247.trans (congrArg some (by kernel_rfl))
 f276:=Tryz.func240.trans (congrArg some (by kernel_rfl))
 f277:=Tryz.func252.trans (congrArg some (by kernel_rfl))
 t0:=Tryz.underlying0
 a0:=Tryz.isAgg0
 z0:=Tryz.sizeOf0
 v0:=Tryz.zeroValue0
 t3:=Tryz.underlying3
 a3:=Tryz.isAgg3
 z3:=Tryz.sizeOf3
 v3:=Tryz.zeroValue3
 t4:=Tryz.underlying4
 a4:=Tryz.isAgg4
 z4:=Tryz.sizeOf4
 v4:=Tryz.zeroValue4
 t5:=Tryz.underlying5
 a5:=Tryz.isAgg5
 z5:=Tryz.sizeOf5
 v5:=Tryz.zeroValue5
 t9:=Tryz.underlying9
 a9:=Tryz.isAgg9
 z9:=Tryz.sizeOf9
 v9:=Tryz.zeroValue9
 t20:=Tryz.underlying20
 a20:=Tryz.isAgg20
 z20:=Tryz.sizeOf20
 v20:=Tryz.zeroValue20
 t37:=Tryz.underlying93
 a37:=Tryz.isAgg93
 z37:=Tryz.sizeOf93
 v37:=Tryz.zeroValue93
 t46:=Tryz.underlying186
 a46:=Tryz.isAgg186
 z46:=Tryz.sizeOf186
 v46:=Tryz.zeroValue186
 t51:=Tryz.underlying58
 a51:=Tryz.isAgg58
 z51:=Tryz.sizeOf58
 v51:=Tryz.zeroValue58
 t53:=Tryz.underlying210
 a53:=Tryz.isAgg210
 z53:=Tryz.sizeOf210
 v53:=Tryz.zeroValue210
 t70:=Tryz.underlying201
 a70:=Tryz.isAgg201
 z70:=Tryz.sizeOf201
 v70:=Tryz.zeroValue201
 t72:=Tryz.underlying203
 a72:=Tryz.isAgg203
 z72:=Tryz.sizeOf203
 v72:=Tryz.zeroValue203
 t75:=Tryz.underlying191
 a75:=Tryz.isAgg191
 z75:=Tryz.sizeOf191
 v75:=Tryz.zeroValue191
 t76:=Tryz.underlying192
 a76:=Tryz.isAgg192
 z76:=Tryz.sizeOf192
 v76:=Tryz.zeroValue192
 t109:=Tryz.underlying244
 a109:=Tryz.isAgg244
 z109:=Tryz.sizeOf244
 v109:=Tryz.zeroValue244
 t127:=Tryz.underlying233
 a127:=Tryz.isAgg233
 z127:=Tryz.sizeOf233
 v127:=Tryz.zeroValue233
 t146:=Tryz.underlying273
 a146:=Tryz.isAgg273
 z146:=Tryz.sizeOf273
 v146:=Tryz.zeroValue273
 t148:=Tryz.underlying275
 a148:=Tryz.isAgg275
 z148:=Tryz.sizeOf275
 v148:=Tryz.zeroValue275
 t164:=Tryz.underlying268
 a164:=Tryz.isAgg268
 z164:=Tryz.sizeOf268
 v164:=Tryz.zeroValue268}
theorem Tryz.mY:Builder.Extra Tryz.prog Tryz.ow:={
 sizeBuilder:=by kernel_rfl
 liesBuilder:=by kernel_rfl
 t5:=Tryz.underlying5
 a5:=Tryz.isAgg5
 z5:=Tryz.sizeOf5
 v5:=Tryz.zeroValue5
 infoByte:=by kernel_rfl
 cellsByte:=by kernel_rfl
 sizeByte:=by kernel_rfl
 neB5:=by decide}
open Go.RowKit Go.Lib in
theorem Tryz.strings_Repeat(s:ByteArray)(c:Nat)(w:World)(hc:c≤9223372036854775807)(hlen:s.size*c≤140737488355328):
 Calls Tryz.prog 162 #[.string s,.int .i64 c] w fun e w'=>e= .returned (.string ⟨(Lib.repeatL s.data.toList c).toArray⟩)∧Below w.heap.size w w':=Any.strings_Repeat Tryz.BC Tryz.mY s c w hc hlen
def Tryz.oz:Go.Shelf.Ren:=⟨fun|166=>152|240=>200|276=>240|n=>n,fun|0=>0|3=>3|4=>4|5=>5|9=>9|20=>20|37=>93|70=>201|72=>203|75=>191|80=>205|164=>268|n=>n,fun|n=>n⟩
theorem Tryz.BF:Go.Proofs.Lays.n166 Tryz.prog Tryz.oz:={
 mixed:=by kernel_rfl
 f166:=Tryz.func152.trans (congrArg some (by kernel_rfl))
 f240:=Tryz.func200.trans (congrArg some (by kernel_rfl))
 f276:=Tryz.func240.trans (congrArg some (by kernel_rfl))
 t0:=Tryz.underlying0
 a0:=Tryz.isAgg0
 z0:=Tryz.sizeOf0
 v0:=Tryz.zeroValue0
 t3:=Tryz.underlying3
 a3:=Tryz.isAgg3
 z3:=Tryz.sizeOf3
 v3:=Tryz.zeroValue3
 t4:=Tryz.underlying4
 a4:=Tryz.isAgg4
 z4:=Tryz.sizeOf4
 v4:=Tryz.zeroValue4
 t9:=Tryz.underlying9
 a9:=Tryz.isAgg9
 z9:=Tryz.sizeOf9
 v9:=Tryz.zeroValue9
 t20:=Tryz.underlying20
 a20:=Tryz.isAgg20
 z20:=Tryz.sizeOf20
 v20:=Tryz.zeroValue20
 t37:=Tryz.underlying93
 a37:=Tryz.isAgg93
 z37:=Tryz.sizeOf93
 v37:=Tryz.zeroValue93
 t70:=Tryz.underlying201
 a70:=Tryz.isAgg201
 z70:=Tryz.sizeOf201
 v70:=Tryz.zeroValue201
 t72:=Tryz.underlying203
 a72:=Tryz.isAgg203
 z72:=Tryz.sizeOf203
 v72:=Tryz.zeroValue203
 t75:=Tryz.underlying191
 a75:=Tryz.isAgg191
 z75:=Tryz.sizeOf191
 v75:=Tryz.zeroValue191
 t164:=Tryz.underlying268
 a164:=Tryz.isAgg268
 z164:=Tryz.sizeOf268
 v164:=Tryz.zeroValue268}
theorem Tryz.mZ:Builder.Extra Tryz.prog Tryz.oz:={
 sizeBuilder:=by kernel_rfl
 liesBuilder:=by kernel_rfl
 t5:=Tryz.underlying5
 a5:=Tryz.isAgg5
 z5:=Tryz.sizeOf5
 v5:=Tryz.zeroValue5
 infoByte:=by kernel_rfl
 cellsByte:=by kernel_rfl
 sizeByte:=by kernel_rfl
 neB5:=by decide}
theorem Tryz.Builder_WriteString(B b:Nat)(bs:List Value)(s:ByteArray)(w:World)(h:Lib.IsBuilder 203 5 B b bs w)(hlen:bs.length+s.size≤140737488355328)(vz:B≤w.heap.size):
 Calls Tryz.prog 152 #[.pointer (some ⟨b,0,none⟩),.string s] w fun e w'=>e= .returned (.tuple #[.int .i64 s.size,.nilIface])∧(Lib.BuilderAt 203 5 B b (.pointer (some ⟨b,0,none⟩)) (bs++Lib.strCells s) w'∧RowKit.Below B w w'):=Any.Builder_WriteString Tryz.BF Tryz.mZ B b bs s w h hlen vz
end Go.Proofs
namespace Go.Proofs.YtmdfjnhfhidmhaaGreatDoor
def zi(t:List aQ)(p:af):List aQ:=t.filter fun x=>decide (aR x.ag=0)&&decide (x.ag≠[])&&(iT x.ag==p)
def Dp(p:af):af:=(els p).getLastD []
section
variable (H net:af→af) (num:Int→af) (nm:Int→af)
def vF(x:aQ):af:=net (nm x.aj)++(num x.au.length++x.au.flatMap fun a=>net a.k++net a.v)
def Dq:Nat→List aQ→aQ→af
 |0,_,_=> []
 |n+1,t,x=>if x.aj=2 then H (vF net num nm x++num (zi t x.ag).length++(zi t x.ag).flatMap fun y=>net (Dp y.ag)++net (Dq n t y))
  else H (vF net num nm x++net x.av++num x.size++net x.aI)
end
def dL(s:af):af:=Lib.itoa s.length++[58]++s++[44]
def fo:List af→af
 | []=> []
 |s::l=>dL s++fo l
def dZ(n:Int):af:=Lib.itoa n++[32]
theorem WI(l m:List af):fo (l++m)=fo l++fo m:=by
 induction l with
 |nil=>rfl
 |cons s l ih=>rw[List.cons_append,fo,fo,ih,List.append_assoc]
theorem WJ(n w:Nat)(hn:n<10^w)(hw:1≤w):Lib.nDigits n≤w:=by
 induction w generalizing n with
 |zero=>omega
 |succ w ih=>
  by_cases h:n<10
  ·rw[Lib.nDigits_small h];omega
  ·rw[Lib.nDigits_big h];rw[Nat.pow_succ]at hn;rcases Nat.eq_zero_or_pos w with h0|h0
   ·subst h0;simp at hn;omega
   ·have:=ih (n / 10) (by omega) h0;omega
theorem JJ(n:Nat)(h:n≤140737488355328):(Lib.itoa (n:Int)).length≤16:=by
 have:Lib.itoa (n:Int)=Lib.decDigits n:=by simp[Lib.itoa]
 rw[this,Lib.decDigits_length];exact WJ n 16 (by omega) (by omega)
theorem tq(s:af)(h:s.length≤100000000):(dL s).length≤s.length+18:=by
 have:=JJ s.length (by omega);simp[dL];omega
theorem BG(n:Nat)(h:n≤140737488355328):(dZ n).length≤17:=by
 have:=JJ n h;simp[dZ];omega
structure ad2 (x:aQ):Prop where
 aj:x.aj=1∨x.aj=2∨x.aj=3
 ED:x.au.length≤16
 Nt:∀a∈x.au,a.k.length≤32∧a.v.length≤64
 av:x.av.length≤200
 s0:0≤x.size
 s1:x.size≤65536
 aI:x.aI.length≤32
 ag:x.ag.length≤200
 deep:(els x.ag).length≤8
theorem WK:∀{l:List At} {p:Option At},eG p l=0→ ∀a∈l,a.k.length≤32∧a.v.length≤64
 | [],_,_,a,ha=>by cases ha
 |x::l,p,h,a,ha=>by
  unfold eG at h;by_cases h1:fQ x≠0
  ·rw[if_pos h1]at h;exact absurd h h1
  rw[if_neg h1]at h;split at h
  ·omega
  split at h
  ·omega
  rcases List.mem_cons.1 ha with rfl|ha
  ·have h2:fQ a=0:=by omega
   unfold fQ at h2;split at h2
   ·omega
   rename_i hk;split at h2
   ·omega
   simp[o7]at hk;omega
  ·exact WK h a ha
theorem Xst{l:List At}(h:nK l=0):l.length≤16∧ ∀a∈l,a.k.length≤32∧a.v.length≤64:=by
 unfold nK at h;split at h
 ·omega
 ·exact⟨by omega,WK h⟩
def WL:aQ:=⟨2,[],[],[],0,[],[]⟩
def Deep(n:Nat)(x:aQ):Prop:=10≤(els x.ag).length+n
section
variable (H:af→af) (hH:∀s,(H s).length≤32)
abbrev JK(n:Nat)(t:List aQ)(x:aQ):af:=Dq H dL dZ fU n t x
abbrev EE(x:aQ):af:=vF dL dZ fU x
theorem Qq(k:Int):(fU k).length≤7:=by
 unfold fU;repeat' split
 all_goals simp
def vG(l:List At):af:=dZ l.length++l.flatMap fun a=>dL a.k++dL a.v
theorem Qr:∀(l:List At),(∀a∈l,a.k.length≤32∧a.v.length≤64)→(l.flatMap fun a=>dL a.k++dL a.v).length≤132*l.length
 | [],_=>by simp
 |a::l,h=>by
  have h1:=h a (List.mem_cons_self ..);have h2:=Qr l fun b hb=>h b (List.mem_cons_of_mem _ hb);have h3:=tq a.k (by omega);have h4:=tq a.v (by omega);simp only[List.flatMap_cons,List.length_append,List.length_cons];omega
theorem Xqs{l:List At}(hn:l.length≤16)(h:∀a∈l,a.k.length≤32∧a.v.length≤64):(vG l).length≤2200:=by
 have h1:=Qr l h;have h2:=BG l.length (by omega);unfold vG;rw[List.length_append];omega
def Nu(n:Nat)(t:List aQ)(x:aQ)(l:List aQ):af:=EE x++dZ (zi t x.ag).length++l.flatMap fun y=>dL (Dp y.ag)++dL (JK H n t y)
end
