/- Lemmas for the claim's theorem;conditions: as each says. -/
import Derived.Test.YtmdfjnhfhidmhaaGreatDoorJ13
set_option maxHeartbeats 0
set_option maxRecDepth 100000
set_option linter.all false
namespace Go.Proofs.YtmdfjnhfhidmhaaGreatDoor
open Go.RowKit
variable{l:List Ho}{p:af}{k:Nat}{x:Ho}{d:Int}
theorem Pv{I:IH}(W:World)(n:Nat)(hn:n=W.heap.size):aK jB 148 I (W.alloc (.cells #[] 148)) n (.slice (some ⟨n,0,none⟩) 0 0) []:=by
 subst hn;exact⟨[],World.ownsRow_made W #[] 0 (Qn _) (Nat.zero_le _) (by simp),bA.nil _ _⟩
theorem Xpx(hk:k<l.length)(hx:l[k]=x):fT (l.take (k+1)) p d=(fT (l.take k) p d || (decide (d≤x.u)&&under p x.p)):=by
 rw[List.take_succ_eq_append_getElem hk,hx];simp[fT,dP]
theorem Xnn(hk:k<l.length)(hx:l[k]=x):kE (l.take (k+1)) p d=(kE (l.take k) p d || (decide (d≤x.u)&&under x.p p)):=by
 rw[List.take_succ_eq_append_getElem hk,hx];simp[kE,dP]
theorem Xry(hk:k<l.length)(hx:l[k]=x)(h1:decide (d≤x.u)=true)(h2:under p x.p=true):fT l p d=true:=by
 unfold fT;rw[List.any_eq_true];exact⟨x,List.mem_filter.2 ⟨by rw[←hx];exact List.getElem_mem hk,h1⟩,h2⟩
theorem Xp7(hk:k<l.length)(hx:l[k]=x)(h1:decide (d≤x.u)=true)(h2:under x.p p=true):kE l p d=true:=by
 unfold kE;rw[List.any_eq_true];exact⟨x,List.mem_filter.2 ⟨by rw[←hx];exact List.getElem_mem hk,h1⟩,h2⟩
theorem Xqg{u U:Int}(hk:k<l.length)(hx:l[k]=x)(h:mi p (l.drop k) u=U):mi p (l.drop (k+1)) (if x.p=p then x.u else u)=U:=by
 rw[List.drop_eq_getElem_cons hk,hx,mi]at h;exact h
theorem Xkx(I:IH)(v:Value)(l:List Ho)(hv:aZ jB I v l)(hn:l.length≤100000)(d:Int)(w:World)(hw:Ok I w):
 Calls Tryz.prog 66 #[v,.int .i64 d] w fun e w'=> ∃v',e= .returned v'∧aK jB 148 I w' w.heap.size v' (dP l d)∧Below w.heap.size w w':=by
 obtain⟨ao,cap,rfl,dO,fJ,_⟩:=id hv;have Hv:=Qh hv;clear hv;have H0:=Qh (Pv (I:=I) w w.heap.size rfl);go_enter Tryz.func66,Tryz.ntmps66
 go_wp2_with fail
 go_loopw [5,6] (fun s5 s6 wr=> ∃k:Nat,k≤l.length∧s6= .int .i64 k∧aK jB 148 I wr w.heap.size s5 (dP (l.take k) d)∧Below w.heap.size w wr) (fun _ i _=>l.length-(intOf i).toNat)
 case atStart=>exact⟨0,Nat.zero_le _,rfl,H0.O,(Qb _ _).alloc (Qn _) _⟩
 case round=>
  clear H0;obtain⟨k,hk,rfl,bg,hb⟩:=hrel;have bL:=Qh bg;clear bg;have ni:(dP (l.take k) d).length≤k:=Nat.le_trans (List.length_filter_le _ _) (by simp;omega);by_cases hlt:k<l.length
  ·obtain⟨x,b,off,cap',dA,cZ,c0,c1⟩:=wy Hv.O (hw.below (Qn _) hb) k hlt;cases cZ;have bu:=Qh (Yk (fun h=>decide (d≤h.u)) hlt dA);clear dA;cases hq:decide (d≤x.u)
   ·have Hn:=Qh (show dP (l.take (k+1)) d=dP (l.take k) d from Ym bu.O hq);go_wp2;go_roundw;case rel=>exact⟨k+1,by omega,by go_num,bL.O.tH Hn.O.symm,hb⟩
    case measure=>simp[intOf];omega
   ·have Hn:=Qh (show dP (l.take (k+1)) d=dP (l.take k) d++[x]from Yl bu.O hq);have qj:=hb.size;go_wp2_with (at_builtin;refine pE (w0:=wr) Ce rfl _ _ rfl _ _ _ rfl bL.O x [S x.p,.int .i64 x.u] _ rfl rfl (by omega) (by omega) qj ?_)
    intro v9 w9 bD bP;have gP:=Below.own hb bP bL.O (Qn _) qj;go_wp2;go_roundw;case rel=>exact⟨k+1,by omega,by go_num,bD.tH Hn.O.symm,gP⟩
    case measure=>simp[intOf];omega
  ·have aC:l.take k=l:=List.take_of_length_le (by omega);rw[aC]at bL;clear aC ni;go_wp2;go_ret;exact⟨_,rfl,bL.O,hb⟩
theorem Xpb(I:IH)(v:Value)(l:List Ho)(hv:aZ jB I v l)(hn:l.length≤100000)(p:af)(d:Int)(w:World)(hw:Ok I w):
 Calls Tryz.prog 126 #[v,S p,.int .i64 d] w fun e w'=>e= .returned (.bool (fT l p d))∧Below w.heap.size w w':=by
 obtain⟨ao,cap,rfl,dO,fJ,_⟩:=id hv;have Hv:=Qh hv;clear hv;go_enter Tryz.func126,Tryz.ntmps126
 go_wp2_with fail
 go_loopw [7] (fun s7 wr=> ∃k:Nat,k≤l.length∧s7= .int .i64 k∧fT (l.take k) p d=false∧Below w.heap.size w wr) (fun i _=>l.length-(intOf i).toNat)
 case atStart=>exact⟨0,Nat.zero_le _,rfl,rfl,Qb _ _⟩
 case round=>
  obtain⟨k,hk,rfl,hr,hb⟩:=hrel;have Hr:=Qh hr;clear hr;have dG:Ok I wr:=hw.below (Qn _) hb;by_cases hlt:k<l.length
  ·obtain⟨x,b,off,cap',dA,cZ,c0,c1⟩:=wy Hv.O dG k hlt;cases cZ;have bu:=Qh (Xpx (p:=p) (d:=d) hlt dA);have qM:=Qh dA;have Ms:=Qh (fun w hw=>Uz I p x.p w hw);clear dA;cases hq:decide (d≤x.u)
   ·have Hn:=Qh (show fT (l.take (k+1)) p d=false by rw[bu.O,Hr.O,hq];rfl);go_wp2;go_roundw;case rel=>exact⟨k+1,by omega,by go_num,Hn.O,hb⟩
    case measure=>simp[intOf];omega
   ·go_wp2_with fail
    refine(Ms.O _ dG).mono ?_;rintro e1 w1 ⟨rfl,aD⟩;have aH:=hb.trans (aD.mono hb.size);clear aD;cases hu:under p x.p
    ·have Hn:=Qh (show fT (l.take (k+1)) p d=false by rw[bu.O,Hr.O,hq,hu];rfl);go_wp2;go_roundw;case rel=>exact⟨k+1,by omega,by go_num,Hn.O,aH⟩
     case measure=>simp[intOf];omega
    ·have Hn:=Qh (Xry (p:=p) (d:=d) hlt qM.O hq hu);go_wp2;go_ret;exact⟨ib Hn.O.symm,aH⟩
  ·have Hn:=Qh (show fT l p d=false by have:=Hr.O;rwa[List.take_of_length_le (by omega)]at this);go_wp2;go_ret;exact⟨ib Hn.O.symm,hb⟩
theorem Xjq(I:IH)(v:Value)(l:List Ho)(hv:aZ jB I v l)(hn:l.length≤100000)(e:aT)(va vx:Value)(fq:aZ lD I va e.aj)(kJ:aZ lY I vx e.aA)(d:Int)(w:World)(hw:Ok I w):
 Calls Tryz.prog 75 #[v,gN e va vx,.int .i64 d] w fun r w'=>r= .returned (.int .i64 (jP l e.au e.ag d))∧Below w.heap.size w w':=by
 have Hh:=Qh (fun w hw=>Xpb I v l hv hn e.ag d w hw);obtain⟨ao,cap,rfl,dO,fJ,_⟩:=id hv;obtain⟨aa,ca,rfl,_,_,_⟩:=id fq;obtain⟨ax,cx,rfl,_,_,_⟩:=id kJ;have Hv:=Qh hv;clear hv fq kJ;by_cases h1:e.au=1
 ·have k1:((e.au:Int)==1)=true:=by simpa using h1
  have k4:((e.au:Int)==4)=false:=by have:e.au≠4:=by omega
                                    simpa using this
  have Hn:=Qh (show jP l e.au e.ag d=if fT l e.ag d then 15 else 0 by rw[jP,if_pos (.inl h1)]);generalize fT l e.ag d=b at Hh Hn;clear h1;go_enter Tryz.func75,Tryz.ntmps75
  go_wp2_with fail
  refine(Hh.O _ (hw.alloc _)).mono ?_;rintro e1 w1 ⟨rfl,aD⟩;have kU:=Qh (dx (e:=e) rfl aD);have aM:Ok I w1:=(hw.alloc _).below (Qn _) aD;have aH:=((Qb w.heap.size w).alloc (Qn _) (.cells #[.int .i64 e.au,S e.ag,.slice aa e.aj.length ca,S e.target,.int .i64 e.size,S e.av,.slice ax e.aA.length cx] 81)).trans (aD.mono (by simp));clear aD;obtain⟨c0,c1,c2,c3,c4,c5,c6⟩:=kU.O;cases b
  ·go_wp2;go_ret;exact⟨di Hn.O.symm,aH⟩
  ·go_wp2;go_ret;exact⟨di Hn.O.symm,aH⟩
 have k1:((e.au:Int)==1)=false:=by simpa using h1
 by_cases h2:e.au=2
 ·have k2:((e.au:Int)==2)=true:=by simpa using h2
  have k4:((e.au:Int)==4)=false:=by have:e.au≠4:=by omega
                                    simpa using this
  have Hn:=Qh (show jP l e.au e.ag d=if fT l e.ag d then 15 else 0 by rw[jP,if_pos (.inr (.inl h2))]);generalize fT l e.ag d=b at Hh Hn;clear h1 h2;go_enter Tryz.func75,Tryz.ntmps75
  go_wp2_with fail
  refine(Hh.O _ (hw.alloc _)).mono ?_;rintro e1 w1 ⟨rfl,aD⟩;have kU:=Qh (dx (e:=e) rfl aD);have aM:Ok I w1:=(hw.alloc _).below (Qn _) aD;have aH:=((Qb w.heap.size w).alloc (Qn _) (.cells #[.int .i64 e.au,S e.ag,.slice aa e.aj.length ca,S e.target,.int .i64 e.size,S e.av,.slice ax e.aA.length cx] 81)).trans (aD.mono (by simp));clear aD;obtain⟨c0,c1,c2,c3,c4,c5,c6⟩:=kU.O;cases b
  ·go_wp2;go_ret;exact⟨di Hn.O.symm,aH⟩
  ·go_wp2;go_ret;exact⟨di Hn.O.symm,aH⟩
 have k2:((e.au:Int)==2)=false:=by simpa using h2
 by_cases h3:e.au=3
 ·have k3:((e.au:Int)==3)=true:=by simpa using h3
  have k4:((e.au:Int)==4)=false:=by have:e.au≠4:=by omega
                                    simpa using this
  have Hn:=Qh (show jP l e.au e.ag d=if fT l e.ag d then 15 else 0 by rw[jP,if_pos (.inr (.inr h3))]);generalize fT l e.ag d=b at Hh Hn;clear h1 h2 h3;go_enter Tryz.func75,Tryz.ntmps75
  go_wp2_with fail
  refine(Hh.O _ (hw.alloc _)).mono ?_;rintro e1 w1 ⟨rfl,aD⟩;have kU:=Qh (dx (e:=e) rfl aD);have aM:Ok I w1:=(hw.alloc _).below (Qn _) aD;have aH:=((Qb w.heap.size w).alloc (Qn _) (.cells #[.int .i64 e.au,S e.ag,.slice aa e.aj.length ca,S e.target,.int .i64 e.size,S e.av,.slice ax e.aA.length cx] 81)).trans (aD.mono (by simp));clear aD;obtain⟨c0,c1,c2,c3,c4,c5,c6⟩:=kU.O;cases b
  ·go_wp2;go_ret;exact⟨di Hn.O.symm,aH⟩
  ·go_wp2;go_ret;exact⟨di Hn.O.symm,aH⟩
 have k3:((e.au:Int)==3)=false:=by simpa using h3
 have wM:¬(e.au=1∨e.au=2∨e.au=3):=fun q=>by omega
 by_cases h4:e.au=4;case neg=>
  have k4:((e.au:Int)==4)=false:=by simpa using h4
  have Hn:=Qh (show jP l e.au e.ag d=0 by rw[jP,if_neg wM,if_neg h4]);clear h1 h2 h3 h4 wM;go_enter Tryz.func75,Tryz.ntmps75
  go_wp2;go_ret;exact⟨di Hn.O.symm,(Qb w.heap.size w).alloc (Qn _) _⟩
 have k4:((e.au:Int)==4)=true:=by simpa using h4
 have Hn:=Qh (show jP l e.au e.ag d=if fT l e.ag d || kE l e.ag d then 15 else 0 by rw[jP,if_neg wM,if_pos h4]);clear h1 h2 h3 h4 wM;generalize fT l e.ag d=b at Hh Hn;go_enter Tryz.func75,Tryz.ntmps75
 go_wp2_with fail
 refine(Hh.O _ (hw.alloc _)).mono ?_;rintro e1 w1 ⟨rfl,aD⟩;have kU:=Qh (dx (e:=e) rfl aD);have aM:Ok I w1:=(hw.alloc _).below (Qn _) aD;have aH:=((Qb w.heap.size w).alloc (Qn _) (.cells #[.int .i64 e.au,S e.ag,.slice aa e.aj.length ca,S e.target,.int .i64 e.size,S e.av,.slice ax e.aA.length cx] 81)).trans (aD.mono (by simp));clear aD;obtain⟨c0,c1,c2,c3,c4,c5,c6⟩:=kU.O;cases b;case true=>
  go_wp2;go_ret;exact⟨di Hn.O.symm,aH⟩
 go_wp2_with fail
 clear c0 c1 c2 c3 c4 c5 c6;go_loopw [8] (fun s8 wr=> ∃k:Nat,k≤l.length∧s8= .int .i64 k∧kE (l.take k) e.ag d=false∧Below w1.heap.size w1 wr) (fun i _=>l.length-(intOf i).toNat)
 case atStart=>exact⟨0,Nat.zero_le _,rfl,rfl,Qb _ _⟩
 case round=>
  obtain⟨k,hk,rfl,hr,hb⟩:=hrel;have Hr:=Qh hr;clear hr;have dG:Ok I wr:=aM.below (Qn _) hb;have sS:=aH.trans (hb.mono aH.size);by_cases hlt:k<l.length
  ·obtain⟨x,b,off,cap',dA,cZ,x0,x1⟩:=wy Hv.O dG k hlt;cases cZ;have bu:=Qh (Xnn (p:=e.ag) (d:=d) hlt dA);have qM:=Qh dA;have Ms:=Qh (fun w hw=>Uz I x.p e.ag w hw);obtain⟨c0,c1,c2,c3,c4,c5,c6⟩:=kU.O.aQ hb;have g1:=cell_regrown c1;have y0:=cell_regrown x0;have y1:=cell_regrown x1;clear dA c0 c1 c2 c3 c4 c5 c6 x0 x1;cases hq:decide (d≤x.u)
   ·have jI:=Qh (show kE (l.take (k+1)) e.ag d=false by rw[bu.O,Hr.O,hq];rfl);go_wp2_with fail
    refine wp_region_quiet_below (by kernel_rfl) (by kernel_rfl) ?_;repeat(go_big_quiet_step ((fail)))
    refine wpQuiet_nil ?_;intro w2 bq;have aL:Below (wr).heap.size (wr) w2:=by
     obtain⟨pq,rfl⟩:=bq;exact below_regrown _ _ _
    clear bq;go_wp2;go_roundw;case rel=>exact⟨k+1,by omega,by go_num,jI.O,hb.trans (aL.mono hb.size)⟩
    case measure=>simp[intOf];omega
   ·go_wp2_with fail
    refine wp_region_quiet_below (by kernel_rfl) (by kernel_rfl) ?_;repeat(go_big_quiet_step ((with_reducible exact Calls.regrown_of (Ms.O _ (dG.below (Qn _) (below_regrown _ _ _))))))
    refine wpQuiet_nil ?_;intro w2 bq;have aL:Below (wr).heap.size (wr) w2:=by
     obtain⟨pq,rfl⟩:=bq;exact below_regrown _ _ _
    clear bq;have aY:=hb.trans (aL.mono hb.size);cases hu:under x.p e.ag
    ·have jI:=Qh (show kE (l.take (k+1)) e.ag d=false by rw[bu.O,Hr.O,hq,hu];rfl);go_wp2;go_roundw;case rel=>exact⟨k+1,by omega,by go_num,jI.O,aY⟩
     case measure=>simp[intOf];omega
    ·have jI:=Qh (show jP l e.au e.ag d=15 by rw[Hn.O,Xp7 hlt qM.O hq hu];rfl);go_wp2;go_ret;exact⟨di jI.O.symm,sS.trans (aL.mono sS.size)⟩
  ·have jI:=Qh (show jP l e.au e.ag d=0 by
    have:=Hr.O;rw[List.take_of_length_le (by omega)]at this;rw[Hn.O,this];rfl)
   go_wp2;go_ret;exact⟨di jI.O.symm,sS⟩
theorem Xe5(I:IH)(v:Value)(l:List Ho)(hv:aZ jB I v l)(hn:l.length≤100000)(p:af)(w:World)(hw:Ok I w):
 Calls Tryz.prog 128 #[v,S p] w fun e w'=> ∃v',e= .returned (.tuple #[v',.int .i64 (mi p l (-1))])∧aK jB 148 I w' w.heap.size v' (ic l p)∧Below w.heap.size w w':=by
 obtain⟨ao,cap,rfl,dO,fJ,_⟩:=id hv;have Hv:=Qh hv;clear hv;have H0:=Qh (Pv (I:=I) w w.heap.size rfl);obtain⟨U,hU⟩:∃U,mi p l (-1)=U:=⟨_,rfl⟩;rw[hU];have HU:=Qh hU;clear hU;go_enter Tryz.func128,Tryz.ntmps128
 go_wp2_with fail
 go_loopw [6,7,8] (fun s6 s7 s8 wr=> ∃(k:Nat) (u:Int),k≤l.length∧s8= .int .i64 k∧s7= .int .i64 u∧mi p (l.drop k) u=U∧aK jB 148 I wr w.heap.size s6 (ic (l.take k) p)∧Below w.heap.size w wr) (fun _ _ i _=>l.length-(intOf i).toNat)
 case atStart=>exact⟨0,-1,Nat.zero_le _,rfl,rfl,HU.O,H0.O,(Qb _ _).alloc (Qn _) _⟩
 case round=>
  clear H0;obtain⟨k,u,hk,rfl,rfl,hu,bg,hb⟩:=hrel;have bL:=Qh bg;have Hu:=Qh hu;clear bg hu;have ni:(ic (l.take k) p).length≤k:=Nat.le_trans (List.length_filter_le _ _) (by simp;omega);by_cases hlt:k<l.length
  ·obtain⟨x,b,off,cap',dA,cZ,c0,c1⟩:=wy Hv.O (hw.below (Qn _) hb) k hlt;cases cZ;have bu:=Qh (Yk (fun h=> !(h.p==p)) hlt dA);have Hsu:=Qh (Xqg hlt dA Hu.O);clear dA Hu;cases hq:(x.p==p)
   ·have Hn:=Qh (show ic (l.take (k+1)) p=ic (l.take k) p++[x]from Yl bu.O (by rw[hq];rfl));have jI:=Qh (show mi p (l.drop (k+1)) u=U by have:=Hsu.O;rwa[if_neg (by simpa using hq)]at this);have qj:=hb.size;go_wp2_with (at_builtin;refine pE (w0:=wr) Ce rfl _ _ rfl _ _ _ rfl bL.O x [S x.p,.int .i64 x.u] _ rfl rfl (by omega) (by omega) qj ?_)
    intro v9 w9 bD bP;have gP:=Below.own hb bP bL.O (Qn _) qj;go_wp2;go_roundw;case rel=>exact⟨k+1,u,by omega,by go_num,rfl,jI.O,bD.tH Hn.O.symm,gP⟩
    case measure=>simp[intOf];omega
   ·have Hn:=Qh (show ic (l.take (k+1)) p=ic (l.take k) p from Ym bu.O (by rw[hq];rfl));have jI:=Qh (show mi p (l.drop (k+1)) x.u=U by have:=Hsu.O;rwa[if_pos (by simpa using hq)]at this);go_wp2;go_roundw;case rel=>exact⟨k+1,x.u,by omega,by go_num,rfl,jI.O,bL.O.tH Hn.O.symm,hb⟩
    case measure=>simp[intOf];omega
  ·have aC:l.take k=l:=List.take_of_length_le (by omega);have sU:u=U:=by have:=Hu.O;rwa[List.drop_of_length_le (by omega)]at this
   rw[aC]at bL;subst sU;clear aC ni;go_wp2;go_ret2;exact⟨_,rfl,bL.O,hb⟩
theorem Xpc(s:af)(hd:fK s=true)(w:World):
 Calls Tryz.prog 127 #[S s] w fun e w'=>e= .returned (.int .i64 (digits s))∧Below w.heap.size w w':=by
 obtain⟨ha,bn,aC,hz⟩:=Yn hd;have nX:=(Uw hd).2;have hlen:=List.length_pos_iff.2 bn;obtain⟨p1,p2,p3,p4⟩:=Ao bn;have TE:=Yp hd;have d10:decide (10<s.length)=false:=Qf (by omega);have oG:=gm (P:=Tryz.prog) Tryz.underlying9 s 0 0 rfl hlen;have qR:=Qh aC;have lU:(¬1<s.length∧decide (1<s.length)=false)∨(1<s.length∧decide (1<s.length)=true∧(((s.getD 0 0).toNat:Int)==48)=false):=by
  by_cases h5:1<s.length
  ·right;refine⟨h5,Qt h5,?_⟩;have:((s.getD 0 0).toNat:Int)≠48:=fun e=>by
    have:=hz (by omega);rw[this]at h5;simp at h5
   simpa using this
  ·exact .inl ⟨h5,Qf h5⟩
 obtain⟨U,hU⟩:∃U,digits s=U:=⟨_,rfl⟩;have HU:=Qh hU;rw[hU]at nX ⊢;have dU:decide (1000000000<U)=false:=Qf (by omega);generalize(s.getD 0 0).toNat=c0 at oG lU;clear ha bn aC hz hd hU;rcases lU with⟨h5,GL⟩|⟨h5,GL,he3⟩
 all_goals
  go_enter Tryz.func127,Tryz.ntmps127
  go_wp2_with fail
  go_loop [3,4] (fun s3 s4=> ∃k:Nat,k≤s.length∧s4= .int .i64 k∧s3= .int .i64 (digits (s.take k))) (fun _ i=>s.length-(intOf i).toNat)
  case atStart=>exact⟨0,Nat.zero_le _,rfl,rfl⟩
  case round=>
   obtain⟨k,hk,rfl,rfl⟩:=hrel;have CS:=Xlx k (s.take k) (by rw[List.length_take];omega) (List.all_eq_true.2 fun c hc=>List.all_eq_true.1 qR.O c (List.mem_of_mem_take hc));by_cases hlt:k<s.length
   ·have hx:=gm (P:=Tryz.prog) Tryz.underlying9 s (k:Int) k rfl hlt;have hpk:(10:Int)^k≤10000000000:=by
     have:(10:Nat)^k≤10^10:=Nat.pow_le_pow_right (by decide) (by omega);have h2:((10^k:Nat):Int)≤((10^10:Nat):Int):=by exact_mod_cast this
     simpa using h2
    have rQ:s.take (k+1)=s.take k++[s.getD k 0]:=by rw[List.take_succ_eq_append_getElem hlt];simp[List.getD,hlt]
    have GM:digits (s.take (k+1))=10*digits (s.take k)+(((s.getD k 0).toNat:Int)-48):=by rw[rQ,Xg]
    have sO:s.getD k 0∈s:=by simp[List.getD,hlt]
    obtain⟨b1,b2⟩:=L6 (List.all_eq_true.1 qR.O _ sO);clear rQ sO;generalize(s.getD k 0).toNat=c at hx GM b1 b2;generalize digits (s.take k)=n at CS GM ⊢;generalize((10:Int)^k)=p10 at CS hpk;have Xh:=Qh GM;have e48:decide ((c:Int)<48)=false:=Qf (by omega);have e57:decide (57<(c:Int))=false:=Qf (by omega);have m1:IntKind.u8.wrap ((c:Int)-48)=(c:Int)-48:=IntWalk.u8_in _ (by omega);have m2:IntKind.i64.wrap ((c:Int)-48)=(c:Int)-48:=IntWalk.i64_in _ (by omega);clear GM;go_wp2;go_round;case rel=>exact⟨k+1,by omega,by go_num,by rw[Xh.O]⟩
    case measure=>simp[intOf];omega
   ·have sU:digits (s.take k)=U:=by rw[List.take_of_length_le (by omega)];exact HU.O
    rw[sU];clear sU CS;go_wp2;go_ret;exact⟨rfl,Qb _ _⟩
