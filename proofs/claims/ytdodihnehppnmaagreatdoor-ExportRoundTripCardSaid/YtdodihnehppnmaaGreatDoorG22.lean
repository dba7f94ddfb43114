/- Lemmas for the claim's theorem;conditions: as each says. -/
import Derived.Test.YtdodihnehppnmaaGreatDoorG19
import Derived.Test.YtdodihnehppnmaaGreatDoorG21
set_option maxHeartbeats 0
set_option maxRecDepth 100000
set_option linter.all false
namespace Go.Proofs.YtdodihnehppnmaaGreatDoor
open Go.RowKit
variable{g:Nat}{z:Int}{E:Value}{c:ae}{k:Int}{bk:Bool}{x:Unit}
def Qr(I:IH)(w:World)(p:ay×Bool)(e:Ending)(w':World):Prop:=
 ∃va vx J,e= .returned (.tuple #[eT p.1 va vx,.bool p.2])∧bf kT J va p.1.ai∧bf mE J vx p.1.ak∧Ext w.heap.size I J∧Ok J w'∧Below w.heap.size w w'
def KZ(r:Rd ay):ay×Bool:=match r with| .ok p=>(p.1,p.1.ag==1)| .error _=>(zE,false)
def GN(c:ae)(r r2:Rd ay):ay×Bool:=match r with| .ok p=>(p.1,c.isEmpty&&(p.1.ag==2 || p.1.ag==3))| .error _=>if 65536<c.length then(zE,false)else KZ r2
theorem Xzb(h c:ae):fZ h c=GN c (jB (nU h) 0) (jB (nD 0 h c) 0):=by
 unfold fZ GN KZ;cases jB (nU h) 0<;>cases jB (nD 0 h c) 0<;>rfl
structure xG (I:IH) (w:World) (J:IH) (W:World):Prop where
 mt:lT I w J W
 ex:Ext w.heap.size I J
 fr:J w.heap.size=none
 res:W.heap[w.heap.size]?=some (.cells aC 26 (0,0))
section
variable {I J J':IH} {w W W':World}
theorem xG.lt(h:xG I w J W):w.heap.size<W.heap.size:=(Qg h.res)
theorem xG.aA(h:xG I w J W)(hb:Below W.heap.size W W'):xG I w J W':=⟨h.mt.quiet hb,h.ex,h.fr,mV h.res hb⟩
theorem xG.past(h:xG I w J W)(o:Obj):xG I w J (W.alloc o):=h.aA ((Qb _ _).alloc (Qn _) o)
theorem xG.ext(h:xG I w J W)(hb:Below W.heap.size W W')(hx:Ext W.heap.size J J')(gK:Ok J' W'):xG I w J' W':=
 ⟨h.mt.ext hb hx gK,h.ex.trans (hx.mono (Nat.le_of_lt h.lt)) (Qn _),(hx _ h.lt).trans h.fr,mV h.res hb⟩
theorem xG.new(h:xG I w J W)(hg:W.grownBy W' (some g))(hJ:J g=none)(xu:w.heap.size<g):xG I w J W':=
 ⟨⟨h.mt.ok.grown hg (fun k q=>by injection q with q;subst q;exact hJ),h.mt.keep,h.mt.fA.grown hg h.mt.size (fun k q=>by injection q with q;omega)⟩,h.ex,h.fr,jC h.res hg (fun q=>by injection q with q;omega)⟩
theorem xG.start(h:Ok I w):xG I w I (w.alloc (.cells aC 26)):=⟨(lT.start h).past _,Ext.refl _ _,h.fresh (Qn _),heap_alloc_new w _⟩
end
theorem Xmf{s:ae}(h:jB s 0= .error z):(z !=0)=true:=by
 rw[Xwc]at h;cases h0:BN s with
 |error y=>
  rw[h0,dK]at h;injection h with h
  subst h;exact((X0c s).2 _ h0).2
 |ok p=>
  rw[h0,aR]at h;unfold jV at h;split at h
  ·rename_i q;injection h with h
   subst h;simpa using q
  ·cases h
abbrev eaL(E:Value)(g:Nat)(c:ae)(z k:Int)(bk:Bool)(x:Unit):List (Option Tmp×Value):=
 [(some 30,E),(some 31,S c),(some 32,.bool false),(some 33,.bool false),(some 34,undef),(some 35,undef),(some 36,undef),(some 37,undef),(some 38,undef),(some 39,undef),(some 40,undef),(some 41,undef),(some 42,.bool false),(none,undef),(some 5,.bool false)]
theorem CX:dL (eaL E g c z k bk x):=by
 unfold dL;simp
abbrev ebL(E:Value)(g:Nat)(c:ae)(z k:Int)(bk:Bool)(x:Unit):List (Option Tmp×Value):=
 [(some 30,E),(some 31,S c),(some 32,.bool true),(some 33,.bool true),(some 34,.pointer (some ⟨g,0,none⟩)),(some 35,.int .i64 k),(some 36,.bool true),(some 37,.bool true),(some 38,undef),(some 39,undef),(some 40,undef),(some 41,.bool true),(some 42,.bool true),(none,undef),(some 5,.bool true)]
theorem La:dL (ebL E g c z k bk x):=by
 unfold dL;simp
abbrev ecL(E:Value)(g:Nat)(c:ae)(z k:Int)(bk:Bool)(x:Unit):List (Option Tmp×Value):=
 [(some 30,E),(some 31,S c),(some 32,.bool true),(some 33,.bool true),(some 34,.pointer (some ⟨g,0,none⟩)),(some 35,.int .i64 k),(some 36,.bool false),(some 37,.bool false),(some 38,.pointer (some ⟨g,0,none⟩)),(some 39,.int .i64 k),(some 40,.bool bk),(some 41,.bool bk),(some 42,.bool bk),(none,undef),(some 5,.bool bk)]
theorem T9:dL (ecL E g c z k bk x):=by
 unfold dL;simp
abbrev edL(E:Value)(g:Nat)(c:ae)(z k:Int)(bk:Bool)(x:Unit):List (Option Tmp×Value):=
 [(some 80,E),(some 81,.int .i64 z),(some 82,.bool true),(some 83,.bool true),(some 84,.pointer (some ⟨g,0,none⟩)),(some 85,.int .i64 k),(some 86,.bool bk),(some 87,.bool bk),(none,undef),(some 5,.bool bk)]
theorem Ua:dL (edL E g c z k bk x):=by
 unfold dL;simp
abbrev eeL(E:Value)(g:Nat)(c:ae)(z k:Int)(bk:Bool)(x:Unit):List (Option Tmp×Value):=
 [(some 80,E),(some 81,.int .i64 z),(some 82,.bool false),(some 83,.bool false),(some 84,undef),(some 85,undef),(some 86,undef),(some 87,.bool false),(none,undef),(some 5,.bool false)]
theorem Lb:dL (eeL E g c z k bk x):=by
 unfold dL;simp
theorem Xrr(I:IH)(hI:dG I)(h c:ae)(hh:h.length≤100000000)(hc:c.length≤100000000)(w:World)(hw:Ok I w):
 Calls Tryz.prog 53 #[S h,S c] w (Qr I w (fZ h c)):=by
 have xe:=Qh (fun w hw=>(show Calls Tryz.prog 41 #[.int .i64 0] w (fun e w'=>e= .returned (S (bq 0))∧Below w.heap.size w w')from IM I hI 0 (by decide) w hw));have yI:=Qh (fun w hw=>(show Calls Tryz.prog 41 #[.int .i64 1] w (fun e w'=>e= .returned (S (bq 1))∧Below w.heap.size w w')from IM I hI 1 (by decide) w hw));have xH:=Qh (fun w hw=>IL I hI h (by omega) w hw);have Yh:=Qh (fun w hw=>(show Calls Tryz.prog 62 #[.string ⟨#[]⟩] w (fun e w'=>e= .returned (S (aN []))∧Below w.heap.size w w')from IL I hI [] (by decide) w hw));have Hnc:=Qh (fun w hw=>IM I hI c.length (by omega) w hw);have GQ:=Qh (fun b w kF hb=>Qj b c (by omega) w kF hb);have vW:=X0y c;have OW:=Qh (fun w hw=>IL I hI (bE c) (by omega) w hw);have l1:=mQ h hh;have l0:(bq 0).length≤17:=y9 0 (by decide);have l11:(bq 1).length≤17:=y9 1 (by decide);have le:=mQ [] (by decide);have lc:=y9 c.length (by omega);have ld:=mQ (bE c) (by omega);have lI:(Tryz.prog.info? 26).map (·.size)=some 7:=by kernel_rfl
 have HN:=Qh (show((aN h++bq 0)++aN [])++bq 0=nU h by simp[nU,uz,vL]);have HF:=Qh (show((aN h++bq c.length)++aN (bE c))++(if c=[]then bq 0 else((bq 1++bq 0)++bq 0)++bq c.length)=nD 0 h c by
  by_cases mM:c=[]
  ·simp[nD,eY,uz,vL,mM]
  ·simp[nD,eY,uz,vL,mM])
 have GL:=Qh (fun w hw=>Xne I hI (nU h) (by rw[←HN.O];simp only[List.length_append];simp at le;omega) w hw);have D9:=Qh (fun(w:World) hw=>Xne I hI (nD 0 h c) (by
  rw[←HF.O,List.length_append,List.length_append,List.length_append];split
  ·omega
  ·rw[List.length_append,List.length_append,List.length_append];omega) w hw)
 obtain⟨P,hP⟩:∃P,fZ h c=P:=⟨_,rfl⟩;rw[hP];rw[Xzb]at hP;generalize nU h=tn at*;generalize nD 0 h c=tf at*;have Dc:=Qh (fun z=>Xmf (s:=tn) (z:=z));have JO:=Qh (fun z=>Xmf (s:=tf) (z:=z));generalize jB tn 0=R1 at hP GL Dc;generalize jB tf 0=R2 at hP D9 JO;have Jg:=Qh hP;clear hP;generalize aN h=p1 at*;generalize bq 0=p0 at*;generalize bq 1=NK at*;generalize aN []=pe at*;generalize bq (c.length:Int)=pc at*;generalize aN (bE c)=pd at*;generalize bE c=dg at*;simp only[List.length_nil]at le;have d1:¬9223372036854775807<p1.length+p0.length:=by omega
 have d2:¬9223372036854775807<(p1++p0).length+pe.length:=by rw[List.length_append];omega
 have d3:¬9223372036854775807<(p1++p0++pe).length+p0.length:=by rw[List.length_append,List.length_append];omega
 obtain⟨v1,xN⟩:∃v,p1++p0=v:=⟨_,rfl⟩;rw[xN]at d2 d3 HN;obtain⟨v2,xO⟩:∃v,v1++pe=v:=⟨_,rfl⟩;rw[xO]at d3 HN;have f1:¬9223372036854775807<p1.length+pc.length:=by omega
 have f2:¬9223372036854775807<(p1++pc).length+pd.length:=by rw[List.length_append];omega
 have f3:(p1++pc++pd).length≤100000200:=by rw[List.length_append,List.length_append];omega
 obtain⟨u1,hu1⟩:∃v,p1++pc=v:=⟨_,rfl⟩;rw[hu1]at f2 f3 HF;obtain⟨u2,hu2⟩:∃v,u1++pd=v:=⟨_,rfl⟩;rw[hu2]at f3 HF;have M0:=Qh (xG.start hw);go_enter Tryz.func53,Tryz.ntmps53
 go_wp2_with fail
 refine(xH.O _ M0.O.mt.ok).mono ?_;rintro e1 w1 ⟨rfl,au⟩;have M1:=Qh (M0.O.aA au);clear au M0;go_wp2_with fail
 refine(xe.O _ M1.O.mt.ok).mono ?_;rintro e2 w2 ⟨rfl,aD⟩;have M2:=Qh (M1.O.aA aD);clear aD M1;go_wp2_with fail
 refine(Yh.O _ M2.O.mt.ok).mono ?_;rintro e3 w3 ⟨rfl,bU⟩;have M3:=Qh (M2.O.aA bU);clear bU M2;go_wp2_with fail
 refine(xe.O _ M3.O.mt.ok).mono ?_;rintro e4 w4 ⟨rfl,aL⟩;have M4:=Qh (M3.O.aA aL);clear aL M3;go_wp2_with fail
 rw[HN.O];refine(GL.O _ M4.O.mt.ok).mono ?_;intro e5 w5 hd;cases R1 with
 |ok p=>
  obtain⟨p,bb⟩:=p;obtain⟨va,vx,J,rfl,dV,dX,hx,gK,hb⟩:=hd;obtain⟨xa,ca,rfl,_,_,_⟩:=id dV;obtain⟨xx,cx,rfl,_,_,_⟩:=id dX;have VA:=Qh dV;have VX:=Qh dX;have k5:=Qh ((M4.O.ext hb hx gK).past (.cells aC 26));have AZ:=gK.fresh (Qn _);have Ee:=(M4.O.aA hb).lt;have H5:=Qh (heap_alloc_new w5 (.cells aC 26));clear dV dX hx gK hb M4
  go_wp2_with (refine rz rfl rfl 26 _ _ rfl w5.heap.size 0 (aQ p (.slice xa p.ai.length ca) (.slice xx p.ak.length cx)).toList (eT p (.slice xa p.ai.length ca) (.slice xx p.ak.length cx)) (by simp[Act.eval,Act.put]) (by simp[Act.eval,Act.put]) (by rfl) aC 26 H5.O (by simp) lI (by simp[Value.oneCell']) (aQ p (.slice xa p.ai.length ca) (.slice xx p.ak.length cx)) (by rfl) ?_
               intro w6 xD Ky;have Q:=Qh (k5.O.new xD AZ Ee);obtain⟨y0,y1,y2,y3,y4,y5,y6⟩:=ent_row Ky)
  have NL:=Qh (show P=(p,c.isEmpty&&(p.ag==2 || p.ag==3))from Jg.O.symm);have q3:((0:Int)==0)=true:=rfl;by_cases mM:c=[]
  ·subst mM;have q1:(([]:ae)==[])=true:=rfl;by_cases sP:p.ag=2
   ·have q2:(p.ag==2)=true:=by simpa using sP
    have q4:(p.ag==2)=true:=q2;have HP:=Qh (show P=(p,true) by rw[NL.O,q2];rfl);clear sP NL Jg;go_wp2_with fail
    refine BD (X:=Unit) (ebL (eT p (.slice xa p.ai.length ca) (.slice xx p.ak.length cx)) w5.heap.size ([]) 0 p.ag true) (nT w6 226 236 227 237 228 238 229 239 (fun _ _=>True) (fun _ _=>True) (fun _ _=>True) (fun _ _=>True) (fun _ _=>True) (fun _ _=>True) (fun x=>w.heap.size) 26 13 216 217 (fun x=>aQ p (.slice xa p.ai.length ca) (.slice xx p.ak.length cx)) (fun x=>aQ p (.slice xa p.ai.length ca) (.slice xx p.ak.length cx)) (fun x=>aQ p (.slice xa p.ai.length ca) (.slice xx p.ak.length cx))) (by kernel_rfl) (by kernel_rfl) ?_ ?_ ?_
    ·exact⟨(),nT.start _ _ trivial⟩
    ·rintro x s' a' w' i eU iK ha hC hi;obtain⟨bO,oi,jb,aG⟩:=mem_ready.1 hi;have ev:=KS La ha;have hlt:=CP bO;rcases i with _|_|_|_|_|_|_|_|_|_|_|_|_|_|_|i
     rotate_left 15
     ·simp at jb
     all_goals
      have iD:=jb;simp at jb;subst jb;simp[Region.binds]at aG;try have hl:=FC 6 13 iK (by decide+kernel) bO
      try have jY:=hC.off hl
      have y0:=hC.cell y0 (by show w.heap.size≠w5.heap.size;omega);have y1:=hC.cell y1 (by show w.heap.size≠w5.heap.size;omega);have y2:=hC.cell y2 (by show w.heap.size≠w5.heap.size;omega);have y3:=hC.cell y3 (by show w.heap.size≠w5.heap.size;omega);have y4:=hC.cell y4 (by show w.heap.size≠w5.heap.size;omega);have y5:=hC.cell y5 (by show w.heap.size≠w5.heap.size;omega);have y6:=hC.cell y6 (by show w.heap.size≠w5.heap.size;omega);refine wpOp_step iD (fun K' hK=> ?_);first|rw[if_pos (by rfl)]|rw[if_pos (by unfold Region.wanted;dsimp only;rw[zg (j:=3) (t:=33) (b:=true) (by rfl) (by simp[ev,jL,aG])];rfl)]|skip
     rotate_left 8
     ·rw[if_neg (by unfold Region.wanted;dsimp only;rw[zg (j:=7) (t:=37) (b:=true) (by rfl) (by simp[ev,jL,aG])];decide)];exact hK _ _ ⟨x,o6 La ha rfl bO,hC.pure (by decide)⟩
     ·rw[if_neg (by unfold Region.wanted;dsimp only;rw[zg (j:=7) (t:=37) (b:=true) (by rfl) (by simp[ev,jL,aG])];decide)];exact hK _ _ ⟨x,o6 La ha rfl bO,hC.pure (by decide)⟩
     ·rw[if_neg (by unfold Region.wanted;dsimp only;rw[zg (j:=7) (t:=37) (b:=true) (by rfl) (by simp[ev,jL,aG])];decide)];exact hK _ _ ⟨x,o6 La ha rfl bO,hC.pure (by decide)⟩
     rotate_left 2
     ·have aZ:w'.heap[w.heap.size]?=some (.cells _ 26 (0,0)):=(jY.block _ (Qg Q.O.res)).trans Q.O.res;refine Fs 26 _ _ rfl (w.heap.size) 0 (aQ p (.slice xa p.ai.length ca) (.slice xx p.ak.length cx)).toList (eT p (.slice xa p.ai.length ca) (.slice xx p.ak.length cx)) (by simp[Act.eval,ev,jL,aG]) (by simp[Act.eval,ev,jL,aG]) (by rfl) _ _ aZ (by simp) (by kernel_rfl) (by simp[Value.oneCell']) ?_;exact hK _ _ ⟨x,jK (d:=none) (v:=undef) La ha rfl bO,hC.BO bO trivial (CQ (by simp[eU])) (CQ (by simp[eU])) (by decide) aZ (by rfl)⟩
     all_goals
      unfold Oper.wp;first
      |(simp[go_sem,ev,jL,aG,Oper.upon,y0,y1,y2,y3,y4,y5,y6,q1,q2,q3,q4];exact hK _ _ ⟨x,o6 La ha rfl bO,hC.pure (by decide)⟩)
      |(simp[go_sem,ev,jL,Oper.upon,y0,y1,y2,y3,y4,y5,y6,q1,q2,q3,q4];exact hK _ _ ⟨x,o6 La ha rfl bO,hC.pure (by decide)⟩)
    ·rintro x s' a' wE jQ ha hC;obtain⟨wb,tN,Ef,sZ,aZ⟩:=hC.on (jQ 13 (by decide));simp only[ite_self]at aZ;rw[CL _ _ _ _ (fun i hi=>by rw[Nat.zero_add];exact jQ i (by simpa using hi))]at ha;subst ha;simp only[iw,Act.put,List.setIfInBounds_toArray,List.set_cons_succ,List.set_cons_zero];have GR:=(Q.O.mt.fA.trans (tN.mono Q.O.mt.size)).grown sZ (Nat.le_trans Q.O.mt.size tN.size) (fun g q=>by injection q with q;omega);have gK:=(Q.O.mt.ok.below (Qn _) tN).grown sZ (fun g q=>by injection q with q;subst q;exact Q.O.fr);clear hC jQ;go_wp2;refine bodyPost_ret (ND rfl _ _ _ rfl aZ rfl Tryz.underlying26 lI) rfl ?_;rw[HP.O];exact⟨_,_,J,rfl,VA.O,VX.O,Q.O.ex,gK,GR⟩
   ·have q2:(p.ag==2)=false:=by simpa using sP
    obtain⟨bk,q4⟩:∃bk,(p.ag==3)=bk:=⟨_,rfl⟩;have HP:=Qh (show P=(p,bk) by rw[NL.O,q2,q4];rfl);clear sP NL Jg;go_wp2_with fail
    refine BD (X:=Unit) (ecL (eT p (.slice xa p.ai.length ca) (.slice xx p.ak.length cx)) w5.heap.size ([]) 0 p.ag bk) (nT w6 226 236 227 237 228 238 229 239 (fun _ _=>True) (fun _ _=>True) (fun _ _=>True) (fun _ _=>True) (fun _ _=>True) (fun _ _=>True) (fun x=>w.heap.size) 26 13 216 217 (fun x=>aQ p (.slice xa p.ai.length ca) (.slice xx p.ak.length cx)) (fun x=>aQ p (.slice xa p.ai.length ca) (.slice xx p.ak.length cx)) (fun x=>aQ p (.slice xa p.ai.length ca) (.slice xx p.ak.length cx))) (by kernel_rfl) (by kernel_rfl) ?_ ?_ ?_
    ·exact⟨(),nT.start _ _ trivial⟩
    ·rintro x s' a' w' i eU iK ha hC hi;obtain⟨bO,oi,jb,aG⟩:=mem_ready.1 hi;have ev:=KS T9 ha;have hlt:=CP bO;rcases i with _|_|_|_|_|_|_|_|_|_|_|_|_|_|_|i
     rotate_left 15
     ·simp at jb
     all_goals
      have iD:=jb;simp at jb;subst jb;simp[Region.binds]at aG;try have hl:=FC 6 13 iK (by decide+kernel) bO
      try have jY:=hC.off hl
      have y0:=hC.cell y0 (by show w.heap.size≠w5.heap.size;omega);have y1:=hC.cell y1 (by show w.heap.size≠w5.heap.size;omega);have y2:=hC.cell y2 (by show w.heap.size≠w5.heap.size;omega);have y3:=hC.cell y3 (by show w.heap.size≠w5.heap.size;omega);have y4:=hC.cell y4 (by show w.heap.size≠w5.heap.size;omega);have y5:=hC.cell y5 (by show w.heap.size≠w5.heap.size;omega);have y6:=hC.cell y6 (by show w.heap.size≠w5.heap.size;omega);refine wpOp_step iD (fun K' hK=> ?_);first|rw[if_pos (by rfl)]|rw[if_pos (by unfold Region.wanted;dsimp only;rw[zg (j:=3) (t:=33) (b:=true) (by rfl) (by simp[ev,jL,aG])];rfl)]|rw[if_pos (by unfold Region.wanted;dsimp only;rw[zg (j:=7) (t:=37) (b:=false) (by rfl) (by simp[ev,jL,aG])];rfl)]
     rotate_left 13
     ·have aZ:w'.heap[w.heap.size]?=some (.cells _ 26 (0,0)):=(jY.block _ (Qg Q.O.res)).trans Q.O.res;refine Fs 26 _ _ rfl (w.heap.size) 0 (aQ p (.slice xa p.ai.length ca) (.slice xx p.ak.length cx)).toList (eT p (.slice xa p.ai.length ca) (.slice xx p.ak.length cx)) (by simp[Act.eval,ev,jL,aG]) (by simp[Act.eval,ev,jL,aG]) (by rfl) _ _ aZ (by simp) (by kernel_rfl) (by simp[Value.oneCell']) ?_;exact hK _ _ ⟨x,jK (d:=none) (v:=undef) T9 ha rfl bO,hC.BO bO trivial (CQ (by simp[eU])) (CQ (by simp[eU])) (by decide) aZ (by rfl)⟩
     all_goals
      unfold Oper.wp;first
      |(simp[go_sem,ev,jL,aG,Oper.upon,y0,y1,y2,y3,y4,y5,y6,q1,q2,q3,q4];exact hK _ _ ⟨x,o6 T9 ha rfl bO,hC.pure (by decide)⟩)
      |(simp[go_sem,ev,jL,Oper.upon,y0,y1,y2,y3,y4,y5,y6,q1,q2,q3,q4];exact hK _ _ ⟨x,o6 T9 ha rfl bO,hC.pure (by decide)⟩)
    ·rintro x s' a' wE jQ ha hC;obtain⟨wb,tN,Ef,sZ,aZ⟩:=hC.on (jQ 13 (by decide));simp only[ite_self]at aZ;rw[CL _ _ _ _ (fun i hi=>by rw[Nat.zero_add];exact jQ i (by simpa using hi))]at ha;subst ha;simp only[iw,Act.put,List.setIfInBounds_toArray,List.set_cons_succ,List.set_cons_zero];have GR:=(Q.O.mt.fA.trans (tN.mono Q.O.mt.size)).grown sZ (Nat.le_trans Q.O.mt.size tN.size) (fun g q=>by injection q with q;omega);have gK:=(Q.O.mt.ok.below (Qn _) tN).grown sZ (fun g q=>by injection q with q;subst q;exact Q.O.fr);clear hC jQ;go_wp2;refine bodyPost_ret (ND rfl _ _ _ rfl aZ rfl Tryz.underlying26 lI) rfl ?_;rw[HP.O];exact⟨_,_,J,rfl,VA.O,VX.O,Q.O.ex,gK,GR⟩
  ·have q1:(c==[])=false:=by simpa using mM
   have q2:c.isEmpty=false:=by rw[←Bool.not_eq_true,List.isEmpty_iff];exact mM
   have q4:c.isEmpty=false:=q2;have HP:=Qh (show P=(p,false) by rw[NL.O,q2];rfl);clear mM NL Jg;go_wp2_with fail
   refine BD (X:=Unit) (eaL (eT p (.slice xa p.ai.length ca) (.slice xx p.ak.length cx)) w5.heap.size c 0 p.ag false) (nT w6 226 236 227 237 228 238 229 239 (fun _ _=>True) (fun _ _=>True) (fun _ _=>True) (fun _ _=>True) (fun _ _=>True) (fun _ _=>True) (fun x=>w.heap.size) 26 13 216 217 (fun x=>aQ p (.slice xa p.ai.length ca) (.slice xx p.ak.length cx)) (fun x=>aQ p (.slice xa p.ai.length ca) (.slice xx p.ak.length cx)) (fun x=>aQ p (.slice xa p.ai.length ca) (.slice xx p.ak.length cx))) (by kernel_rfl) (by kernel_rfl) ?_ ?_ ?_
   ·exact⟨(),nT.start _ _ trivial⟩
   ·rintro x s' a' w' i eU iK ha hC hi;obtain⟨bO,oi,jb,aG⟩:=mem_ready.1 hi;have ev:=KS CX ha;have hlt:=CP bO;rcases i with _|_|_|_|_|_|_|_|_|_|_|_|_|_|_|i
    rotate_left 15
    ·simp at jb
    all_goals
     have iD:=jb;simp at jb;subst jb;simp[Region.binds]at aG;try have hl:=FC 6 13 iK (by decide+kernel) bO
     try have jY:=hC.off hl
     have y0:=hC.cell y0 (by show w.heap.size≠w5.heap.size;omega);have y1:=hC.cell y1 (by show w.heap.size≠w5.heap.size;omega);have y2:=hC.cell y2 (by show w.heap.size≠w5.heap.size;omega);have y3:=hC.cell y3 (by show w.heap.size≠w5.heap.size;omega);have y4:=hC.cell y4 (by show w.heap.size≠w5.heap.size;omega);have y5:=hC.cell y5 (by show w.heap.size≠w5.heap.size;omega);have y6:=hC.cell y6 (by show w.heap.size≠w5.heap.size;omega);refine wpOp_step iD (fun K' hK=> ?_);first|rw[if_pos (by rfl)]|skip
    rotate_left 4
    ·rw[if_neg (by unfold Region.wanted;dsimp only;rw[zg (j:=3) (t:=33) (b:=false) (by rfl) (by simp[ev,jL,aG])];decide)];exact hK _ _ ⟨x,o6 CX ha rfl bO,hC.pure (by decide)⟩
    ·rw[if_neg (by unfold Region.wanted;dsimp only;rw[zg (j:=3) (t:=33) (b:=false) (by rfl) (by simp[ev,jL,aG])];decide)];exact hK _ _ ⟨x,o6 CX ha rfl bO,hC.pure (by decide)⟩
    ·rw[if_neg (by unfold Region.wanted;dsimp only;rw[zg (j:=3) (t:=33) (b:=false) (by rfl) (by simp[ev,jL,aG])];decide)];exact hK _ _ ⟨x,o6 CX ha rfl bO,hC.pure (by decide)⟩
    ·rw[if_neg (by unfold Region.wanted;dsimp only;rw[zg (j:=3) (t:=33) (b:=false) (by rfl) (by simp[ev,jL,aG])];decide)];exact hK _ _ ⟨x,o6 CX ha rfl bO,hC.pure (by decide)⟩
    ·rw[if_neg (by unfold Region.wanted;dsimp only;rw[XF (j:=7) (t:=37) (by rfl) (by simp[ev,jL,aG])];decide)];exact hK _ _ ⟨x,o6 CX ha rfl bO,hC.pure (by decide)⟩
    ·rw[if_neg (by unfold Region.wanted;dsimp only;rw[XF (j:=7) (t:=37) (by rfl) (by simp[ev,jL,aG])];decide)];exact hK _ _ ⟨x,o6 CX ha rfl bO,hC.pure (by decide)⟩
    ·rw[if_neg (by unfold Region.wanted;dsimp only;rw[XF (j:=7) (t:=37) (by rfl) (by simp[ev,jL,aG])];decide)];exact hK _ _ ⟨x,o6 CX ha rfl bO,hC.pure (by decide)⟩
    ·rw[if_neg (by unfold Region.wanted;dsimp only;rw[zg (j:=3) (t:=33) (b:=false) (by rfl) (by simp[ev,jL,aG])];decide)];exact hK _ _ ⟨x,o6 CX ha rfl bO,hC.pure (by decide)⟩
    rotate_left 1
    ·have aZ:w'.heap[w.heap.size]?=some (.cells _ 26 (0,0)):=(jY.block _ (Qg Q.O.res)).trans Q.O.res;refine Fs 26 _ _ rfl (w.heap.size) 0 (aQ p (.slice xa p.ai.length ca) (.slice xx p.ak.length cx)).toList (eT p (.slice xa p.ai.length ca) (.slice xx p.ak.length cx)) (by simp[Act.eval,ev,jL,aG]) (by simp[Act.eval,ev,jL,aG]) (by rfl) _ _ aZ (by simp) (by kernel_rfl) (by simp[Value.oneCell']) ?_;exact hK _ _ ⟨x,jK (d:=none) (v:=undef) CX ha rfl bO,hC.BO bO trivial (CQ (by simp[eU])) (CQ (by simp[eU])) (by decide) aZ (by rfl)⟩
    all_goals
     unfold Oper.wp;first
     |(simp[go_sem,ev,jL,aG,Oper.upon,y0,y1,y2,y3,y4,y5,y6,q1,q2,q3,q4];exact hK _ _ ⟨x,o6 CX ha rfl bO,hC.pure (by decide)⟩)
     |(simp[go_sem,ev,jL,Oper.upon,y0,y1,y2,y3,y4,y5,y6,q1,q2,q3,q4];exact hK _ _ ⟨x,o6 CX ha rfl bO,hC.pure (by decide)⟩)
   ·rintro x s' a' wE jQ ha hC;obtain⟨wb,tN,Ef,sZ,aZ⟩:=hC.on (jQ 13 (by decide));simp only[ite_self]at aZ;rw[CL _ _ _ _ (fun i hi=>by rw[Nat.zero_add];exact jQ i (by simpa using hi))]at ha;subst ha;simp only[iw,Act.put,List.setIfInBounds_toArray,List.set_cons_succ,List.set_cons_zero];have GR:=(Q.O.mt.fA.trans (tN.mono Q.O.mt.size)).grown sZ (Nat.le_trans Q.O.mt.size tN.size) (fun g q=>by injection q with q;omega);have gK:=(Q.O.mt.ok.below (Qn _) tN).grown sZ (fun g q=>by injection q with q;subst q;exact Q.O.fr);clear hC jQ;go_wp2;refine bodyPost_ret (ND rfl _ _ _ rfl aZ rfl Tryz.underlying26 lI) rfl ?_;rw[HP.O];exact⟨_,_,J,rfl,VA.O,VX.O,Q.O.ex,gK,GR⟩
 |error z=>
  obtain⟨rfl,hb⟩:=hd;have hz:(z==0)=false:=by simpa using Dc.O z rfl
  by_cases TR:65536<c.length
  ·have q1:decide ((65536:Int)<(c.length:Int))=true:=Qt (by omega);have HP:=Qh (show P=(zE,false) by rw[←Jg.O,GN,if_pos TR]);clear TR Jg;have k5:=Qh ((M4.O.aA hb).past (.cells aC 26));have AZ:=(M4.O.aA hb).mt.ok.fresh (Qn _);have Ee:=(M4.O.aA hb).lt;have H5:=Qh (heap_alloc_new w5 (.cells aC 26));clear hb M4
   go_wp2_with (first
                |(refine rz rfl rfl 26 _ _ rfl w5.heap.size 0 aC.toList (.agg aC) (by simp[Act.eval,Act.put]) (by simp[Act.eval,Act.put]) (by rfl) aC 26 H5.O (by simp) lI (by simp[Value.oneCell']) aC (by rfl) ?_
                  intro w6 xD Ky;have M6:=Qh (k5.O.new xD AZ Ee);clear H5)
                |(refine rz rfl rfl 26 _ _ rfl w.heap.size 0 aC.toList (.agg aC) (by simp[Act.eval,Act.put]) (by simp[Act.eval,Act.put]) (by rfl) aC 26 M6.O.res (by simp) lI (by simp[Value.oneCell']) aC (by rfl) ?_
                  intro w7 kI Qs))
   go_wp2;refine bodyPost_ret (ND rfl _ _ _ rfl Qs rfl Tryz.underlying26 lI) rfl ?_;rw[HP.O];exact⟨.slice none 0 0,.slice none 0 0,I,rfl,bf.nil _ _,bf.nil _ _,Ext.refl _ _,M6.O.mt.ok.grown kI (fun g q=>by injection q with q;subst q;exact M6.O.fr),M6.O.mt.fA.grown kI M6.O.mt.size (fun g q=>by injection q with q;omega)⟩
  ·have q1:decide ((65536:Int)<(c.length:Int))=false:=Qf (by omega);have Ub:=Qh (show P=KZ R2 by rw[←Jg.O,GN,if_neg TR]);clear Jg;have k5:=Qh ((M4.O.aA hb).past (.cells aC 26));have AZ:=(M4.O.aA hb).mt.ok.fresh (Qn _);have Ee:=(M4.O.aA hb).lt;have H5:=Qh (heap_alloc_new w5 (.cells aC 26));clear hb M4
   go_wp2_with (refine rz rfl rfl 26 _ _ rfl w5.heap.size 0 aC.toList (.agg aC) (by simp[Act.eval,Act.put]) (by simp[Act.eval,Act.put]) (by rfl) aC 26 H5.O (by simp) lI (by simp[Value.oneCell']) aC (by rfl) ?_
                intro w6 xD Ky;have M6:=Qh (k5.O.new xD AZ Ee))
   go_wp2_with fail
   refine(xH.O _ M6.O.mt.ok).mono ?_;rintro e7 w7 ⟨rfl,jJ⟩;have M7:=Qh (M6.O.aA jJ);clear jJ M6;go_wp2_with fail
   refine(Hnc.O _ M7.O.mt.ok).mono ?_;rintro e8 w8 ⟨rfl,qB⟩;have M8:=Qh (M7.O.aA qB);clear qB M7;go_wp2_with fail
   refine(GQ.O w8.heap.size (w8.alloc (.cells #[S c] 9)) (by rw[World.cell?_alloc_new];rfl) (by simp)).mono ?_;rintro e9 w9 ⟨rfl,iq⟩;have M9:=Qh ((M8.O.past (.cells #[S c] 9)).aA iq);clear iq M8;go_wp2_with fail
   refine(OW.O _ M9.O.mt.ok).mono ?_;rintro e10 KJ ⟨rfl,zL⟩;have Eg:=Qh (M9.O.aA zL);clear zL M9;go_upto_if 59 with fail
   go_cut [10] (fun s10 wx=>s10=S tf∧xG I w I wx)
   case first=>
    by_cases mM:c=[]
    ·have Ow:=Qh (show u2++p0=tf by have:=HF.O;rwa[if_pos mM]at this);have d4:¬9223372036854775807<u2.length+p0.length:=by omega
     clear HF;subst mM;go_wp2_with fail
     refine(xe.O _ Eg.O.mt.ok).mono ?_;rintro e11 Uc ⟨rfl,yJ⟩;have Jh:=Qh (Eg.O.aA yJ);clear yJ Eg;go_wp2_with fail
     go_meet;case rel=>exact⟨by rw[←Ow.O],Jh.O⟩
    ·have Ow:=Qh (show u2++(((NK++p0)++p0)++pc)=tf by have:=HF.O;rwa[if_neg mM]at this);have g1:¬9223372036854775807<NK.length+p0.length:=by omega
     have g2:¬9223372036854775807<(NK++p0).length+p0.length:=by rw[List.length_append];omega
     have g3:¬9223372036854775807<(NK++p0++p0).length+pc.length:=by rw[List.length_append,List.length_append];omega
     have g4:¬9223372036854775807<u2.length+(NK++p0++p0++pc).length:=by rw[List.length_append,List.length_append,List.length_append];omega
     obtain⟨x1,fP⟩:∃v,NK++p0=v:=⟨_,rfl⟩;rw[fP]at g2 g3 g4 Ow;obtain⟨x2,eZ⟩:∃v,x1++p0=v:=⟨_,rfl⟩;rw[eZ]at g3 g4 Ow;obtain⟨x3,qW⟩:∃v,x2++pc=v:=⟨_,rfl⟩;rw[qW]at g4 Ow;clear HF;obtain⟨ca,cr,rfl⟩:∃a r,c=a::r:=by
      cases hcc:c with
      |nil=>exact absurd hcc mM
      |cons a r=>exact⟨a,r,rfl⟩
     clear mM;go_wp2_with fail
     refine(yI.O _ Eg.O.mt.ok).mono ?_;rintro e11 Uc ⟨rfl,yJ⟩;have Jh:=Qh (Eg.O.aA yJ);clear yJ Eg;go_wp2_with fail
     refine(xe.O _ Jh.O.mt.ok).mono ?_;rintro e12 w12 ⟨rfl,j5⟩;have Lc:=Qh (Jh.O.aA j5);clear j5 Jh;go_wp2_with fail
     refine(xe.O _ Lc.O.mt.ok).mono ?_;rintro e13 w13 ⟨rfl,Qu⟩;have Yi:=Qh (Lc.O.aA Qu);clear Qu Lc;go_wp2_with fail
     refine(Hnc.O _ Yi.O.mt.ok).mono ?_;rintro e14 w14 ⟨rfl,Qv⟩;have M14:=Qh (Yi.O.aA Qv);clear Qv Yi;go_wp2_with fail
     go_meet;case rel=>exact⟨by rw[←Ow.O],M14.O⟩
   case rest=>
    obtain⟨rfl,hM⟩:=hcut;have MA:=Qh hM;clear hM Eg;go_wp2_with fail
    refine(D9.O _ MA.O.mt.ok).mono ?_;intro eB wB hd;cases R2 with
    |ok p=>
     obtain⟨p,bb⟩:=p;obtain⟨va,vx,J,rfl,dV,dX,hx,gK,hb⟩:=hd;obtain⟨bk,q2⟩:∃bk,(p.ag==1)=bk:=⟨_,rfl⟩;have HP:=Qh (show P=(p,bk) by rw[Ub.O,←q2];rfl);have q3:((0:Int)==0)=true:=rfl;have q4:(p.ag==1)=bk:=q2;clear Ub;obtain⟨xa,ca,rfl,_,_,_⟩:=id dV;obtain⟨xx,cx,rfl,_,_,_⟩:=id dX;have VA:=Qh dV;have VX:=Qh dX;have kB:=Qh ((MA.O.ext hb hx gK).past (.cells aC 26));have AZ:=gK.fresh (Qn _);have GU:=(MA.O.aA hb).lt;have HB:=Qh (heap_alloc_new wB (.cells aC 26));clear dV dX hx gK hb MA
     go_wp2_with (refine rz rfl rfl 26 _ _ rfl wB.heap.size 0 (aQ p (.slice xa p.ai.length ca) (.slice xx p.ak.length cx)).toList (eT p (.slice xa p.ai.length ca) (.slice xx p.ak.length cx)) (by simp[Act.eval,Act.put]) (by simp[Act.eval,Act.put]) (by rfl) aC 26 HB.O (by simp) lI (by simp[Value.oneCell']) (aQ p (.slice xa p.ai.length ca) (.slice xx p.ak.length cx)) (by rfl) ?_
                  intro wC Yj Yk;have Q:=Qh (kB.O.new Yj AZ GU);obtain⟨y0,y1,y2,y3,y4,y5,y6⟩:=ent_row Yk)
     go_wp2_with fail
     refine BD (X:=Unit) (edL (eT p (.slice xa p.ai.length ca) (.slice xx p.ak.length cx)) wB.heap.size c 0 p.ag bk) (nT wC 221 231 222 232 223 233 224 234 (fun _ _=>True) (fun _ _=>True) (fun _ _=>True) (fun _ _=>True) (fun _ _=>True) (fun _ _=>True) (fun x=>w.heap.size) 26 8 211 212 (fun x=>aQ p (.slice xa p.ai.length ca) (.slice xx p.ak.length cx)) (fun x=>aQ p (.slice xa p.ai.length ca) (.slice xx p.ak.length cx)) (fun x=>aQ p (.slice xa p.ai.length ca) (.slice xx p.ak.length cx))) (by kernel_rfl) (by kernel_rfl) ?_ ?_ ?_
     ·exact⟨(),nT.start _ _ trivial⟩
     ·rintro x s' a' w' i eU iK ha hC hi;obtain⟨bO,oi,jb,aG⟩:=mem_ready.1 hi;have ev:=KS Ua ha;have hlt:=CP bO;rcases i with _|_|_|_|_|_|_|_|_|_|i
      rotate_left 10
      ·simp at jb
      all_goals
       have iD:=jb;simp at jb;subst jb;simp[Region.binds]at aG;try have hl:=FC 6 8 iK (by decide+kernel) bO
       try have jY:=hC.off hl
       have y0:=hC.cell y0 (by show w.heap.size≠wB.heap.size;omega);have y1:=hC.cell y1 (by show w.heap.size≠wB.heap.size;omega);have y2:=hC.cell y2 (by show w.heap.size≠wB.heap.size;omega);have y3:=hC.cell y3 (by show w.heap.size≠wB.heap.size;omega);have y4:=hC.cell y4 (by show w.heap.size≠wB.heap.size;omega);have y5:=hC.cell y5 (by show w.heap.size≠wB.heap.size;omega);have y6:=hC.cell y6 (by show w.heap.size≠wB.heap.size;omega);refine wpOp_step iD (fun K' hK=> ?_);first|rw[if_pos (by rfl)]|rw[if_pos (by unfold Region.wanted;dsimp only;rw[zg (j:=3) (t:=83) (b:=true) (by rfl) (by simp[ev,jL,aG])];rfl)]
      rotate_left 8
      ·have aZ:w'.heap[w.heap.size]?=some (.cells _ 26 (0,0)):=(jY.block _ (Qg Q.O.res)).trans Q.O.res;refine Fs 26 _ _ rfl (w.heap.size) 0 (aQ p (.slice xa p.ai.length ca) (.slice xx p.ak.length cx)).toList (eT p (.slice xa p.ai.length ca) (.slice xx p.ak.length cx)) (by simp[Act.eval,ev,jL,aG]) (by simp[Act.eval,ev,jL,aG]) (by rfl) _ _ aZ (by simp) (by kernel_rfl) (by simp[Value.oneCell']) ?_;exact hK _ _ ⟨x,jK (d:=none) (v:=undef) Ua ha rfl bO,hC.BO bO trivial (CQ (by simp[eU])) (CQ (by simp[eU])) (by decide) aZ (by rfl)⟩
      all_goals
       unfold Oper.wp;first
       |(simp[go_sem,ev,jL,aG,Oper.upon,y0,y1,y2,y3,y4,y5,y6,q1,q2,q3,q4];exact hK _ _ ⟨x,o6 Ua ha rfl bO,hC.pure (by decide)⟩)
       |(simp[go_sem,ev,jL,Oper.upon,y0,y1,y2,y3,y4,y5,y6,q1,q2,q3,q4];exact hK _ _ ⟨x,o6 Ua ha rfl bO,hC.pure (by decide)⟩)
     ·rintro x s' a' wE jQ ha hC;obtain⟨wb,tN,Ef,sZ,aZ⟩:=hC.on (jQ 8 (by decide));simp only[ite_self]at aZ;rw[CL _ _ _ _ (fun i hi=>by rw[Nat.zero_add];exact jQ i (by simpa using hi))]at ha;subst ha;simp only[iw,Act.put,List.setIfInBounds_toArray,List.set_cons_succ,List.set_cons_zero];have GR:=(Q.O.mt.fA.trans (tN.mono Q.O.mt.size)).grown sZ (Nat.le_trans Q.O.mt.size tN.size) (fun g q=>by injection q with q;omega);have gK:=(Q.O.mt.ok.below (Qn _) tN).grown sZ (fun g q=>by injection q with q;subst q;exact Q.O.fr);clear hC jQ;go_wp2;refine bodyPost_ret (ND rfl _ _ _ rfl aZ rfl Tryz.underlying26 lI) rfl ?_;rw[HP.O];exact⟨_,_,J,rfl,VA.O,VX.O,Q.O.ex,gK,GR⟩
    |error z2=>
     obtain⟨rfl,hb⟩:=hd;have q2:(z2==0)=false:=by simpa using JO.O z2 rfl
     have HP:=Qh (show P=(zE,false)from Ub.O);have q3:(z2==0)=false:=q2;have q4:(z2==0)=false:=q2;clear Ub;have kB:=Qh ((MA.O.aA hb).past (.cells aC 26));have AZ:=(MA.O.aA hb).mt.ok.fresh (Qn _);have GU:=(MA.O.aA hb).lt;have HB:=Qh (heap_alloc_new wB (.cells aC 26));clear hb MA
     go_wp2_with (refine rz rfl rfl 26 _ _ rfl wB.heap.size 0 aC.toList (.agg aC) (by simp[Act.eval,Act.put]) (by simp[Act.eval,Act.put]) (by rfl) aC 26 HB.O (by simp) lI (by simp[Value.oneCell']) aC (by rfl) ?_
                  intro wC Yj Yk;have MC:=Qh (kB.O.new Yj AZ GU))
     have Q:=MC;obtain⟨y0,y1,y2,y3,y4,y5,y6⟩:=ent_row (e:=zE) (va:= .slice none 0 0) (vx:= .slice none 0 0) Yk;have VA:=Qh (bf.nil kT I);have VX:=Qh (bf.nil mE I);have amb:=GU;go_wp2_with fail
     refine BD (X:=Unit) (eeL (eT zE (.slice none 0 0) (.slice none 0 0)) wB.heap.size c z2 0 false) (nT wC 221 231 222 232 223 233 224 234 (fun _ _=>True) (fun _ _=>True) (fun _ _=>True) (fun _ _=>True) (fun _ _=>True) (fun _ _=>True) (fun x=>w.heap.size) 26 8 211 212 (fun x=>aQ zE (.slice none 0 0) (.slice none 0 0)) (fun x=>aQ zE (.slice none 0 0) (.slice none 0 0)) (fun x=>aQ zE (.slice none 0 0) (.slice none 0 0))) (by kernel_rfl) (by kernel_rfl) ?_ ?_ ?_
     ·exact⟨(),nT.start _ _ trivial⟩
     ·rintro x s' a' w' i eU iK ha hC hi;obtain⟨bO,oi,jb,aG⟩:=mem_ready.1 hi;have ev:=KS Lb ha;have hlt:=CP bO;rcases i with _|_|_|_|_|_|_|_|_|_|i
      rotate_left 10
      ·simp at jb
      all_goals
       have iD:=jb;simp at jb;subst jb;simp[Region.binds]at aG;try have hl:=FC 6 8 iK (by decide+kernel) bO
       try have jY:=hC.off hl
       have y0:=hC.cell y0 (by show w.heap.size≠wB.heap.size;omega);have y1:=hC.cell y1 (by show w.heap.size≠wB.heap.size;omega);have y2:=hC.cell y2 (by show w.heap.size≠wB.heap.size;omega);have y3:=hC.cell y3 (by show w.heap.size≠wB.heap.size;omega);have y4:=hC.cell y4 (by show w.heap.size≠wB.heap.size;omega);have y5:=hC.cell y5 (by show w.heap.size≠wB.heap.size;omega);have y6:=hC.cell y6 (by show w.heap.size≠wB.heap.size;omega);refine wpOp_step iD (fun K' hK=> ?_);first|rw[if_pos (by rfl)]|skip
      rotate_left 4
      ·rw[if_neg (by unfold Region.wanted;dsimp only;rw[zg (j:=3) (t:=83) (b:=false) (by rfl) (by simp[ev,jL,aG])];decide)];exact hK _ _ ⟨x,o6 Lb ha rfl bO,hC.pure (by decide)⟩
      ·rw[if_neg (by unfold Region.wanted;dsimp only;rw[zg (j:=3) (t:=83) (b:=false) (by rfl) (by simp[ev,jL,aG])];decide)];exact hK _ _ ⟨x,o6 Lb ha rfl bO,hC.pure (by decide)⟩
      ·rw[if_neg (by unfold Region.wanted;dsimp only;rw[zg (j:=3) (t:=83) (b:=false) (by rfl) (by simp[ev,jL,aG])];decide)];exact hK _ _ ⟨x,o6 Lb ha rfl bO,hC.pure (by decide)⟩
      rotate_left 1
      ·have aZ:w'.heap[w.heap.size]?=some (.cells _ 26 (0,0)):=(jY.block _ (Qg Q.O.res)).trans Q.O.res;refine Fs 26 _ _ rfl (w.heap.size) 0 (aQ zE (.slice none 0 0) (.slice none 0 0)).toList (eT zE (.slice none 0 0) (.slice none 0 0)) (by simp[Act.eval,ev,jL,aG]) (by simp[Act.eval,ev,jL,aG]) (by rfl) _ _ aZ (by simp) (by kernel_rfl) (by simp[Value.oneCell']) ?_;exact hK _ _ ⟨x,jK (d:=none) (v:=undef) Lb ha rfl bO,hC.BO bO trivial (CQ (by simp[eU])) (CQ (by simp[eU])) (by decide) aZ (by rfl)⟩
      all_goals
       unfold Oper.wp;first
       |(simp[go_sem,ev,jL,aG,Oper.upon,y0,y1,y2,y3,y4,y5,y6,q1,q2,q3,q4];exact hK _ _ ⟨x,o6 Lb ha rfl bO,hC.pure (by decide)⟩)
       |(simp[go_sem,ev,jL,Oper.upon,y0,y1,y2,y3,y4,y5,y6,q1,q2,q3,q4];exact hK _ _ ⟨x,o6 Lb ha rfl bO,hC.pure (by decide)⟩)
     ·rintro x s' a' wE jQ ha hC;obtain⟨wb,tN,Ef,sZ,aZ⟩:=hC.on (jQ 8 (by decide));simp only[ite_self]at aZ;rw[CL _ _ _ _ (fun i hi=>by rw[Nat.zero_add];exact jQ i (by simpa using hi))]at ha;subst ha;simp only[iw,Act.put,List.setIfInBounds_toArray,List.set_cons_succ,List.set_cons_zero];have GR:=(Q.O.mt.fA.trans (tN.mono Q.O.mt.size)).grown sZ (Nat.le_trans Q.O.mt.size tN.size) (fun g q=>by injection q with q;omega);have gK:=(Q.O.mt.ok.below (Qn _) tN).grown sZ (fun g q=>by injection q with q;subst q;exact Q.O.fr);clear hC jQ;go_wp2;refine bodyPost_ret (ND rfl _ _ _ rfl aZ rfl Tryz.underlying26 lI) rfl ?_;rw[HP.O];exact⟨_,_,I,rfl,VA.O,VX.O,Q.O.ex,gK,GR⟩
