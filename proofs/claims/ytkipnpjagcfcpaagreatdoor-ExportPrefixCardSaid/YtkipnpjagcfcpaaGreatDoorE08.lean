/- Lemmas for the claim's theorem;conditions: as each says. -/
import Derived.Test.YtkipnpjagcfcpaaGreatDoorE07
import Derived.Laws.OwnMore
set_option maxHeartbeats 0
set_option maxRecDepth 100000
set_option linter.all false
namespace Go.Proofs.YtkipnpjagcfcpaaGreatDoor
open Go.RowKit
variable{st:List ae}{l:List bR}{k g:Nat}{z:Int}{c s:ae}{E:Value}{bk:Bool}{x:Unit}{α:Type}{e:aG}{I:IH}{v:Value}{m:Nat}{w:World}{st':List ae}{W:World}{n:Nat}{p:α→Bool}{t:List aG}{va vx:Value}{T:Ty α}{u:Value}{W':World}{ba be a:Nat}
def QP(I:IH)(w:World)(p:aG×Bool)(e:Ending)(w':World):Prop:=
 ∃va vx J,e= .returned (.tuple #[fB p.1 va vx,.bool p.2])∧bf lT J va p.1.ag∧bf mr J vx p.1.ak∧Ext w.heap.size I J∧Ok J w'∧Below w.heap.size w w'
def Lr(r:Rd aG):aG×Bool:=match r with| .ok p=>(p.1,p.1.ai==1)| .error _=>(zE,false)
def Im(c:ae)(r r2:Rd aG):aG×Bool:=match r with| .ok p=>(p.1,c.isEmpty&&(p.1.ai==2 || p.1.ai==3))| .error _=>if 65536<c.length then(zE,false)else Lr r2
theorem Xya(h c:ae):gU h c=Im c (jJ (oC h) 0) (jJ (nP 0 h c) 0):=by
 unfold gU Im Lr;cases jJ (oC h) 0<;>cases jJ (nP 0 h c) 0<;>rfl
structure xX (I:IH) (w:World) (J:IH) (W:World):Prop where
 mt:lY I w J W
 ex:Ext w.heap.size I J
 fr:J w.heap.size=none
 res:W.heap[w.heap.size]?=some (.cells aC 35 (0,0))
section
variable {I J J':IH} {w W W':World}
theorem xX.lt(h:xX I w J W):w.heap.size<W.heap.size:=(Qg h.res)
theorem xX.aA(h:xX I w J W)(hb:Below W.heap.size W W'):xX I w J W':=⟨h.mt.quiet hb,h.ex,h.fr,jg h.res hb⟩
theorem xX.past(h:xX I w J W)(o:Obj):xX I w J (W.alloc o):=h.aA ((Qb _ _).alloc (Qn _) o)
theorem xX.ext(h:xX I w J W)(hb:Below W.heap.size W W')(hx:Ext W.heap.size J J')(gG:Ok J' W'):xX I w J' W':=
 ⟨h.mt.ext hb hx gG,h.ex.trans (hx.mono (Nat.le_of_lt h.lt)) (Qn _),(hx _ h.lt).trans h.fr,jg h.res hb⟩
theorem xX.new(h:xX I w J W)(hg:W.grownBy W' (some g))(hJ:J g=none)(xN:w.heap.size<g):xX I w J W':=
 ⟨⟨h.mt.ok.grown hg (fun k q=>by injection q with q;subst q;exact hJ),h.mt.keep,h.mt.dE.grown hg h.mt.size (fun k q=>by injection q with q;omega)⟩,h.ex,h.fr,iL h.res hg (fun q=>by injection q with q;omega)⟩
theorem xX.start(h:Ok I w):xX I w I (w.alloc (.cells aC 35)):=⟨(lY.start h).past _,Ext.refl _ _,h.fresh (Qn _),heap_alloc_new w _⟩
end
theorem Xlz(h:jJ s 0= .error z):(z !=0)=true:=by
 rw[Xvd]at h;cases h0:Co s with
 |error y=>
  rw[h0,dJ]at h;injection h with h
  subst h;exact((Xyw s).2 _ h0).2
 |ok p=>
  rw[h0,aR]at h;unfold kz at h;split at h
  ·rename_i q;injection h with h
   subst h;simpa using q
  ·cases h
abbrev eaL(E:Value)(g:Nat)(c:ae)(z k:Int)(bk:Bool)(x:Unit):List (Option Tmp×Value):=
 [(some 30,E),(some 31,S c),(some 32,.bool false),(some 33,.bool false),(some 34,undef),(some 35,undef),(some 36,undef),(some 37,undef),(some 38,undef),(some 39,undef),(some 40,undef),(some 41,undef),(some 42,.bool false),(none,undef),(some 5,.bool false)]
theorem Dm{k:Int}:bL (eaL E g c z k bk x):=by
 unfold bL;simp
abbrev ebL(E:Value)(g:Nat)(c:ae)(z k:Int)(bk:Bool)(x:Unit):List (Option Tmp×Value):=
 [(some 30,E),(some 31,S c),(some 32,.bool true),(some 33,.bool true),(some 34,.pointer (some ⟨g,0,none⟩)),(some 35,.int .i64 k),(some 36,.bool true),(some 37,.bool true),(some 38,undef),(some 39,undef),(some 40,undef),(some 41,.bool true),(some 42,.bool true),(none,undef),(some 5,.bool true)]
theorem Ls{k:Int}:bL (ebL E g c z k bk x):=by
 unfold bL;simp
abbrev ecL(E:Value)(g:Nat)(c:ae)(z k:Int)(bk:Bool)(x:Unit):List (Option Tmp×Value):=
 [(some 30,E),(some 31,S c),(some 32,.bool true),(some 33,.bool true),(some 34,.pointer (some ⟨g,0,none⟩)),(some 35,.int .i64 k),(some 36,.bool false),(some 37,.bool false),(some 38,.pointer (some ⟨g,0,none⟩)),(some 39,.int .i64 k),(some 40,.bool bk),(some 41,.bool bk),(some 42,.bool bk),(none,undef),(some 5,.bool bk)]
theorem UA{k:Int}:bL (ecL E g c z k bk x):=by
 unfold bL;simp
abbrev edL(E:Value)(g:Nat)(c:ae)(z k:Int)(bk:Bool)(x:Unit):List (Option Tmp×Value):=
 [(some 80,E),(some 81,.int .i64 z),(some 82,.bool true),(some 83,.bool true),(some 84,.pointer (some ⟨g,0,none⟩)),(some 85,.int .i64 k),(some 86,.bool bk),(some 87,.bool bk),(none,undef),(some 5,.bool bk)]
theorem UB{k:Int}:bL (edL E g c z k bk x):=by
 unfold bL;simp
abbrev eeL(E:Value)(g:Nat)(c:ae)(z k:Int)(bk:Bool)(x:Unit):List (Option Tmp×Value):=
 [(some 80,E),(some 81,.int .i64 z),(some 82,.bool false),(some 83,.bool false),(some 84,undef),(some 85,undef),(some 86,undef),(some 87,.bool false),(none,undef),(some 5,.bool false)]
theorem Lt{k:Int}:bL (eeL E g c z k bk x):=by
 unfold bL;simp
theorem Xra(I:IH)(hI:dQ I)(h c:ae)(hh:h.length≤100000000)(hc:c.length≤100000000)(w:World)(hw:Ok I w):
 Calls Tryz.prog 55 #[S h,S c] w (QP I w (gU h c)):=by
 have qV:=Qh (fun w hw=>(show Calls Tryz.prog 24 #[.int .i64 0] w (fun e w'=>e= .returned (S (aY 0))∧Below w.heap.size w w')from NJ I hI 0 (by decide) w hw));have yT:=Qh (fun w hw=>(show Calls Tryz.prog 24 #[.int .i64 1] w (fun e w'=>e= .returned (S (aY 1))∧Below w.heap.size w w')from NJ I hI 1 (by decide) w hw));have Cu:=Qh (fun w hw=>NI I hI h (by omega) w hw);have Yu:=Qh (fun w hw=>(show Calls Tryz.prog 27 #[.string ⟨#[]⟩] w (fun e w'=>e= .returned (S (aS []))∧Below w.heap.size w w')from NI I hI [] (by decide) w hw));have JF:=Qh (fun w hw=>NJ I hI c.length (by omega) w hw);have Lu:=Qh (fun b w kQ hb=>Xrs b c (by omega) w kQ hb);have wD:=Xze c;have Ps:=Qh (fun w hw=>NI I hI (dM c) (by omega) w hw);have l1:=pY h hh;have l0:(aY 0).length≤17:=qP 0 (by decide);have l11:(aY 1).length≤17:=qP 1 (by decide);have le:=pY [] (by decide);have lc:=qP c.length (by omega);have ld:=pY (dM c) (by omega);have lV:(Tryz.prog.info? 35).map (·.size)=some 7:=by kernel_rfl
 have HN:=Qh (show((aS h++aY 0)++aS [])++aY 0=oC h by simp[oC,uB,vT]);have HF:=Qh (show((aS h++aY c.length)++aS (dM c))++(if c=[]then aY 0 else((aY 1++aY 0)++aY 0)++aY c.length)=nP 0 h c by
  by_cases nk:c=[]
  ·simp[nP,fC,uB,vT,nk]
  ·simp[nP,fC,uB,vT,nk])
 have QI:=Qh (fun w hw=>Xm0 I hI (oC h) (by rw[←HN.O];simp only[List.length_append];simp at le;omega) w hw);have Lj:=Qh (fun(w:World) hw=>Xm0 I hI (nP 0 h c) (by
  rw[←HF.O,List.length_append,List.length_append,List.length_append];split
  ·omega
  ·rw[List.length_append,List.length_append,List.length_append];omega) w hw)
 obtain⟨P,hP⟩:∃P,gU h c=P:=⟨_,rfl⟩;rw[hP];rw[Xya]at hP;generalize oC h=tn at*;generalize nP 0 h c=tf at*;have Dz:=Qh (fun z=>Xlz (s:=tn) (z:=z));have J9:=Qh (fun z=>Xlz (s:=tf) (z:=z));generalize jJ tn 0=R1 at hP QI Dz;generalize jJ tf 0=R2 at hP Lj J9;have JG:=Qh hP;clear hP;generalize aS h=p1 at*;generalize aY 0=p0 at*;generalize aY 1=Og at*;generalize aS []=pe at*;generalize aY (c.length:Int)=pc at*;generalize aS (dM c)=pd at*;generalize dM c=dg at*;simp only[List.length_nil]at le;have d1:¬9223372036854775807<p1.length+p0.length:=by omega
 have d2:¬9223372036854775807<(p1++p0).length+pe.length:=by rw[List.length_append];omega
 have d3:¬9223372036854775807<(p1++p0++pe).length+p0.length:=by rw[List.length_append,List.length_append];omega
 obtain⟨v1,zI⟩:∃v,p1++p0=v:=⟨_,rfl⟩;rw[zI]at d2 d3 HN;obtain⟨v2,zJ⟩:∃v,v1++pe=v:=⟨_,rfl⟩;rw[zJ]at d3 HN;have f1:¬9223372036854775807<p1.length+pc.length:=by omega
 have f2:¬9223372036854775807<(p1++pc).length+pd.length:=by rw[List.length_append];omega
 have f3:(p1++pc++pd).length≤100000200:=by rw[List.length_append,List.length_append];omega
 obtain⟨u1,I8⟩:∃v,p1++pc=v:=⟨_,rfl⟩;rw[I8]at f2 f3 HF;obtain⟨u2,Fz⟩:∃v,u1++pd=v:=⟨_,rfl⟩;rw[Fz]at f3 HF;have M0:=Qh (xX.start hw);go_enter Tryz.func55,Tryz.ntmps55
 go_wp2_with fail
 refine(Cu.O _ M0.O.mt.ok).mono ?_;rintro e1 w1 ⟨rfl,au⟩;have M1:=Qh (M0.O.aA au);clear au M0;go_wp2_with fail
 refine(qV.O _ M1.O.mt.ok).mono ?_;rintro e2 w2 ⟨rfl,aF⟩;have M2:=Qh (M1.O.aA aF);clear aF M1;go_wp2_with fail
 refine(Yu.O _ M2.O.mt.ok).mono ?_;rintro e3 w3 ⟨rfl,cO⟩;have M3:=Qh (M2.O.aA cO);clear cO M2;go_wp2_with fail
 refine(qV.O _ M3.O.mt.ok).mono ?_;rintro e4 w4 ⟨rfl,aM⟩;have M4:=Qh (M3.O.aA aM);clear aM M3;go_wp2_with fail
 rw[HN.O];refine(QI.O _ M4.O.mt.ok).mono ?_;intro e5 w5 hd;cases R1 with
 |ok p=>
  obtain⟨p,bb⟩:=p;obtain⟨va,vx,J,rfl,eP,eT,hx,gG,hb⟩:=hd;obtain⟨xa,ca,rfl,_,_,_⟩:=id eP;obtain⟨xx,cx,rfl,_,_,_⟩:=id eT;have VA:=Qh eP;have VX:=Qh eT;have k5:=Qh ((M4.O.ext hb hx gG).past (.cells aC 35));have Dn:=gG.fresh (Qn _);have EG:=(M4.O.aA hb).lt;have H5:=Qh (heap_alloc_new w5 (.cells aC 35));clear eP eT hx gG hb M4
  go_wp2_with (refine nO rfl rfl 35 _ _ rfl w5.heap.size 0 (aZ p (.slice xa p.ag.length ca) (.slice xx p.ak.length cx)).toList (fB p (.slice xa p.ag.length ca) (.slice xx p.ak.length cx)) (by simp[Act.eval,Act.put]) (by simp[Act.eval,Act.put]) (by rfl) aC 35 H5.O (by simp) lV (by simp[Value.oneCell']) (aZ p (.slice xa p.ag.length ca) (.slice xx p.ak.length cx)) (by rfl) ?_
               intro w6 tC zA;have Q:=Qh (k5.O.new tC Dn EG);obtain⟨y0,y1,y2,y3,y4,y5,y6⟩:=ent_row zA)
  have Oh:=Qh (show P=(p,c.isEmpty&&(p.ai==2 || p.ai==3))from JG.O.symm);have q3:((0:Int)==0)=true:=rfl;by_cases nk:c=[]
  ·subst nk;have q1:(([]:ae)==[])=true:=rfl;by_cases wI:p.ai=2
   ·have q2:(p.ai==2)=true:=by simpa using wI
    have q4:(p.ai==2)=true:=q2;have HP:=Qh (show P=(p,true) by rw[Oh.O,q2];rfl);clear wI Oh JG;go_wp2_with fail
    refine uW (X:=Unit) (ebL (fB p (.slice xa p.ag.length ca) (.slice xx p.ak.length cx)) w5.heap.size ([]) 0 p.ai true) (vX w6 226 236 227 237 228 238 229 239 (fun _ _=>True) (fun _ _=>True) (fun _ _=>True) (fun _ _=>True) (fun _ _=>True) (fun _ _=>True) (fun x=>w.heap.size) 35 13 216 217 (fun x=>aZ p (.slice xa p.ag.length ca) (.slice xx p.ak.length cx)) (fun x=>aZ p (.slice xa p.ag.length ca) (.slice xx p.ak.length cx)) (fun x=>aZ p (.slice xa p.ag.length ca) (.slice xx p.ak.length cx))) (by kernel_rfl) (by kernel_rfl) ?_ ?_ ?_
    ·exact⟨(),vX.start _ _ trivial⟩
    ·rintro x s' a' w' i eU gI ha hC hi;obtain⟨aV,oi,eX,aB⟩:=mem_ready.1 hi;have ev:=zC Ls ha;have hlt:=yI aV;rcases i with _|_|_|_|_|_|_|_|_|_|_|_|_|_|_|i
     rotate_left 15
     ·simp at eX
     all_goals
      have fZ:=eX;simp at eX;subst eX;simp[Region.binds]at aB;try have hl:=xW 6 13 gI (by decide+kernel) aV
      try have dH:=hC.off hl
      have y0:=hC.cell y0 (by show w.heap.size≠w5.heap.size;omega);have y1:=hC.cell y1 (by show w.heap.size≠w5.heap.size;omega);have y2:=hC.cell y2 (by show w.heap.size≠w5.heap.size;omega);have y3:=hC.cell y3 (by show w.heap.size≠w5.heap.size;omega);have y4:=hC.cell y4 (by show w.heap.size≠w5.heap.size;omega);have y5:=hC.cell y5 (by show w.heap.size≠w5.heap.size;omega);have y6:=hC.cell y6 (by show w.heap.size≠w5.heap.size;omega);refine wpOp_step fZ (fun K' hK=> ?_);first|rw[if_pos (by rfl)]|rw[if_pos (by unfold Region.wanted;dsimp only;rw[xw (j:=3) (t:=33) (b:=true) (by rfl) (by simp[ev,fG,aB])];rfl)]|skip
     rotate_left 8
     ·rw[if_neg (by unfold Region.wanted;dsimp only;rw[xw (j:=7) (t:=37) (b:=true) (by rfl) (by simp[ev,fG,aB])];decide)];exact hK _ _ ⟨x,iF Ls ha rfl aV,hC.pure (by decide)⟩
     ·rw[if_neg (by unfold Region.wanted;dsimp only;rw[xw (j:=7) (t:=37) (b:=true) (by rfl) (by simp[ev,fG,aB])];decide)];exact hK _ _ ⟨x,iF Ls ha rfl aV,hC.pure (by decide)⟩
     ·rw[if_neg (by unfold Region.wanted;dsimp only;rw[xw (j:=7) (t:=37) (b:=true) (by rfl) (by simp[ev,fG,aB])];decide)];exact hK _ _ ⟨x,iF Ls ha rfl aV,hC.pure (by decide)⟩
     rotate_left 2
     ·have bI:w'.heap[w.heap.size]?=some (.cells _ 35 (0,0)):=(dH.block _ (Qg Q.O.res)).trans Q.O.res;refine GZ 35 _ _ rfl (w.heap.size) 0 (aZ p (.slice xa p.ag.length ca) (.slice xx p.ak.length cx)).toList (fB p (.slice xa p.ag.length ca) (.slice xx p.ak.length cx)) (by simp[Act.eval,ev,fG,aB]) (by simp[Act.eval,ev,fG,aB]) (by rfl) _ _ bI (by simp) (by kernel_rfl) (by simp[Value.oneCell']) ?_;exact hK _ _ ⟨x,j6 (d:=none) (v:=undef) Ls ha rfl aV,hC.Ab aV trivial (Eg (by simp[eU])) (Eg (by simp[eU])) (by decide) bI (by rfl)⟩
     all_goals
      unfold Oper.wp;first
      |(simp[go_sem,ev,fG,aB,Oper.upon,y0,y1,y2,y3,y4,y5,y6,q1,q2,q3,q4];exact hK _ _ ⟨x,iF Ls ha rfl aV,hC.pure (by decide)⟩)
      |(simp[go_sem,ev,fG,Oper.upon,y0,y1,y2,y3,y4,y5,y6,q1,q2,q3,q4];exact hK _ _ ⟨x,iF Ls ha rfl aV,hC.pure (by decide)⟩)
    ·rintro x s' a' wE gH ha hC;obtain⟨wb,qh,Io,uT,bI⟩:=hC.on (gH 13 (by decide));simp only[ite_self]at bI;rw[vB _ _ _ _ (fun i hi=>by rw[Nat.zero_add];exact gH i (by simpa using hi))]at ha;subst ha;simp only[dZ,Act.put,List.setIfInBounds_toArray,List.set_cons_succ,List.set_cons_zero];have wm:=(Q.O.mt.dE.trans (qh.mono Q.O.mt.size)).grown uT (Nat.le_trans Q.O.mt.size qh.size) (fun g q=>by injection q with q;omega);have gG:=(Q.O.mt.ok.below (Qn _) qh).grown uT (fun g q=>by injection q with q;subst q;exact Q.O.fr);clear hC gH;go_wp2;refine bodyPost_ret (N8 rfl _ _ _ rfl bI rfl Tryz.underlying35 lV) rfl ?_;rw[HP.O];exact⟨_,_,J,rfl,VA.O,VX.O,Q.O.ex,gG,wm⟩
   ·have q2:(p.ai==2)=false:=by simpa using wI
    obtain⟨bk,q4⟩:∃bk,(p.ai==3)=bk:=⟨_,rfl⟩;have HP:=Qh (show P=(p,bk) by rw[Oh.O,q2,q4];rfl);clear wI Oh JG;go_wp2_with fail
    refine uW (X:=Unit) (ecL (fB p (.slice xa p.ag.length ca) (.slice xx p.ak.length cx)) w5.heap.size ([]) 0 p.ai bk) (vX w6 226 236 227 237 228 238 229 239 (fun _ _=>True) (fun _ _=>True) (fun _ _=>True) (fun _ _=>True) (fun _ _=>True) (fun _ _=>True) (fun x=>w.heap.size) 35 13 216 217 (fun x=>aZ p (.slice xa p.ag.length ca) (.slice xx p.ak.length cx)) (fun x=>aZ p (.slice xa p.ag.length ca) (.slice xx p.ak.length cx)) (fun x=>aZ p (.slice xa p.ag.length ca) (.slice xx p.ak.length cx))) (by kernel_rfl) (by kernel_rfl) ?_ ?_ ?_
    ·exact⟨(),vX.start _ _ trivial⟩
    ·rintro x s' a' w' i eU gI ha hC hi;obtain⟨aV,oi,eX,aB⟩:=mem_ready.1 hi;have ev:=zC UA ha;have hlt:=yI aV;rcases i with _|_|_|_|_|_|_|_|_|_|_|_|_|_|_|i
     rotate_left 15
     ·simp at eX
     all_goals
      have fZ:=eX;simp at eX;subst eX;simp[Region.binds]at aB;try have hl:=xW 6 13 gI (by decide+kernel) aV
      try have dH:=hC.off hl
      have y0:=hC.cell y0 (by show w.heap.size≠w5.heap.size;omega);have y1:=hC.cell y1 (by show w.heap.size≠w5.heap.size;omega);have y2:=hC.cell y2 (by show w.heap.size≠w5.heap.size;omega);have y3:=hC.cell y3 (by show w.heap.size≠w5.heap.size;omega);have y4:=hC.cell y4 (by show w.heap.size≠w5.heap.size;omega);have y5:=hC.cell y5 (by show w.heap.size≠w5.heap.size;omega);have y6:=hC.cell y6 (by show w.heap.size≠w5.heap.size;omega);refine wpOp_step fZ (fun K' hK=> ?_);first|rw[if_pos (by rfl)]|rw[if_pos (by unfold Region.wanted;dsimp only;rw[xw (j:=3) (t:=33) (b:=true) (by rfl) (by simp[ev,fG,aB])];rfl)]|rw[if_pos (by unfold Region.wanted;dsimp only;rw[xw (j:=7) (t:=37) (b:=false) (by rfl) (by simp[ev,fG,aB])];rfl)]
     rotate_left 13
     ·have bI:w'.heap[w.heap.size]?=some (.cells _ 35 (0,0)):=(dH.block _ (Qg Q.O.res)).trans Q.O.res;refine GZ 35 _ _ rfl (w.heap.size) 0 (aZ p (.slice xa p.ag.length ca) (.slice xx p.ak.length cx)).toList (fB p (.slice xa p.ag.length ca) (.slice xx p.ak.length cx)) (by simp[Act.eval,ev,fG,aB]) (by simp[Act.eval,ev,fG,aB]) (by rfl) _ _ bI (by simp) (by kernel_rfl) (by simp[Value.oneCell']) ?_;exact hK _ _ ⟨x,j6 (d:=none) (v:=undef) UA ha rfl aV,hC.Ab aV trivial (Eg (by simp[eU])) (Eg (by simp[eU])) (by decide) bI (by rfl)⟩
     all_goals
      unfold Oper.wp;first
      |(simp[go_sem,ev,fG,aB,Oper.upon,y0,y1,y2,y3,y4,y5,y6,q1,q2,q3,q4];exact hK _ _ ⟨x,iF UA ha rfl aV,hC.pure (by decide)⟩)
      |(simp[go_sem,ev,fG,Oper.upon,y0,y1,y2,y3,y4,y5,y6,q1,q2,q3,q4];exact hK _ _ ⟨x,iF UA ha rfl aV,hC.pure (by decide)⟩)
    ·rintro x s' a' wE gH ha hC;obtain⟨wb,qh,Io,uT,bI⟩:=hC.on (gH 13 (by decide));simp only[ite_self]at bI;rw[vB _ _ _ _ (fun i hi=>by rw[Nat.zero_add];exact gH i (by simpa using hi))]at ha;subst ha;simp only[dZ,Act.put,List.setIfInBounds_toArray,List.set_cons_succ,List.set_cons_zero];have wm:=(Q.O.mt.dE.trans (qh.mono Q.O.mt.size)).grown uT (Nat.le_trans Q.O.mt.size qh.size) (fun g q=>by injection q with q;omega);have gG:=(Q.O.mt.ok.below (Qn _) qh).grown uT (fun g q=>by injection q with q;subst q;exact Q.O.fr);clear hC gH;go_wp2;refine bodyPost_ret (N8 rfl _ _ _ rfl bI rfl Tryz.underlying35 lV) rfl ?_;rw[HP.O];exact⟨_,_,J,rfl,VA.O,VX.O,Q.O.ex,gG,wm⟩
  ·have q1:(c==[])=false:=by simpa using nk
   have q2:c.isEmpty=false:=by rw[←Bool.not_eq_true,List.isEmpty_iff];exact nk
   have q4:c.isEmpty=false:=q2;have HP:=Qh (show P=(p,false) by rw[Oh.O,q2];rfl);clear nk Oh JG;go_wp2_with fail
   refine uW (X:=Unit) (eaL (fB p (.slice xa p.ag.length ca) (.slice xx p.ak.length cx)) w5.heap.size c 0 p.ai false) (vX w6 226 236 227 237 228 238 229 239 (fun _ _=>True) (fun _ _=>True) (fun _ _=>True) (fun _ _=>True) (fun _ _=>True) (fun _ _=>True) (fun x=>w.heap.size) 35 13 216 217 (fun x=>aZ p (.slice xa p.ag.length ca) (.slice xx p.ak.length cx)) (fun x=>aZ p (.slice xa p.ag.length ca) (.slice xx p.ak.length cx)) (fun x=>aZ p (.slice xa p.ag.length ca) (.slice xx p.ak.length cx))) (by kernel_rfl) (by kernel_rfl) ?_ ?_ ?_
   ·exact⟨(),vX.start _ _ trivial⟩
   ·rintro x s' a' w' i eU gI ha hC hi;obtain⟨aV,oi,eX,aB⟩:=mem_ready.1 hi;have ev:=zC Dm ha;have hlt:=yI aV;rcases i with _|_|_|_|_|_|_|_|_|_|_|_|_|_|_|i
    rotate_left 15
    ·simp at eX
    all_goals
     have fZ:=eX;simp at eX;subst eX;simp[Region.binds]at aB;try have hl:=xW 6 13 gI (by decide+kernel) aV
     try have dH:=hC.off hl
     have y0:=hC.cell y0 (by show w.heap.size≠w5.heap.size;omega);have y1:=hC.cell y1 (by show w.heap.size≠w5.heap.size;omega);have y2:=hC.cell y2 (by show w.heap.size≠w5.heap.size;omega);have y3:=hC.cell y3 (by show w.heap.size≠w5.heap.size;omega);have y4:=hC.cell y4 (by show w.heap.size≠w5.heap.size;omega);have y5:=hC.cell y5 (by show w.heap.size≠w5.heap.size;omega);have y6:=hC.cell y6 (by show w.heap.size≠w5.heap.size;omega);refine wpOp_step fZ (fun K' hK=> ?_);first|rw[if_pos (by rfl)]|skip
    rotate_left 4
    ·rw[if_neg (by unfold Region.wanted;dsimp only;rw[xw (j:=3) (t:=33) (b:=false) (by rfl) (by simp[ev,fG,aB])];decide)];exact hK _ _ ⟨x,iF Dm ha rfl aV,hC.pure (by decide)⟩
    ·rw[if_neg (by unfold Region.wanted;dsimp only;rw[xw (j:=3) (t:=33) (b:=false) (by rfl) (by simp[ev,fG,aB])];decide)];exact hK _ _ ⟨x,iF Dm ha rfl aV,hC.pure (by decide)⟩
    ·rw[if_neg (by unfold Region.wanted;dsimp only;rw[xw (j:=3) (t:=33) (b:=false) (by rfl) (by simp[ev,fG,aB])];decide)];exact hK _ _ ⟨x,iF Dm ha rfl aV,hC.pure (by decide)⟩
    ·rw[if_neg (by unfold Region.wanted;dsimp only;rw[xw (j:=3) (t:=33) (b:=false) (by rfl) (by simp[ev,fG,aB])];decide)];exact hK _ _ ⟨x,iF Dm ha rfl aV,hC.pure (by decide)⟩
    ·rw[if_neg (by unfold Region.wanted;dsimp only;rw[XQ (j:=7) (t:=37) (by rfl) (by simp[ev,fG,aB])];decide)];exact hK _ _ ⟨x,iF Dm ha rfl aV,hC.pure (by decide)⟩
    ·rw[if_neg (by unfold Region.wanted;dsimp only;rw[XQ (j:=7) (t:=37) (by rfl) (by simp[ev,fG,aB])];decide)];exact hK _ _ ⟨x,iF Dm ha rfl aV,hC.pure (by decide)⟩
    ·rw[if_neg (by unfold Region.wanted;dsimp only;rw[XQ (j:=7) (t:=37) (by rfl) (by simp[ev,fG,aB])];decide)];exact hK _ _ ⟨x,iF Dm ha rfl aV,hC.pure (by decide)⟩
    ·rw[if_neg (by unfold Region.wanted;dsimp only;rw[xw (j:=3) (t:=33) (b:=false) (by rfl) (by simp[ev,fG,aB])];decide)];exact hK _ _ ⟨x,iF Dm ha rfl aV,hC.pure (by decide)⟩
    rotate_left 1
    ·have bI:w'.heap[w.heap.size]?=some (.cells _ 35 (0,0)):=(dH.block _ (Qg Q.O.res)).trans Q.O.res;refine GZ 35 _ _ rfl (w.heap.size) 0 (aZ p (.slice xa p.ag.length ca) (.slice xx p.ak.length cx)).toList (fB p (.slice xa p.ag.length ca) (.slice xx p.ak.length cx)) (by simp[Act.eval,ev,fG,aB]) (by simp[Act.eval,ev,fG,aB]) (by rfl) _ _ bI (by simp) (by kernel_rfl) (by simp[Value.oneCell']) ?_;exact hK _ _ ⟨x,j6 (d:=none) (v:=undef) Dm ha rfl aV,hC.Ab aV trivial (Eg (by simp[eU])) (Eg (by simp[eU])) (by decide) bI (by rfl)⟩
    all_goals
     unfold Oper.wp;first
     |(simp[go_sem,ev,fG,aB,Oper.upon,y0,y1,y2,y3,y4,y5,y6,q1,q2,q3,q4];exact hK _ _ ⟨x,iF Dm ha rfl aV,hC.pure (by decide)⟩)
     |(simp[go_sem,ev,fG,Oper.upon,y0,y1,y2,y3,y4,y5,y6,q1,q2,q3,q4];exact hK _ _ ⟨x,iF Dm ha rfl aV,hC.pure (by decide)⟩)
   ·rintro x s' a' wE gH ha hC;obtain⟨wb,qh,Io,uT,bI⟩:=hC.on (gH 13 (by decide));simp only[ite_self]at bI;rw[vB _ _ _ _ (fun i hi=>by rw[Nat.zero_add];exact gH i (by simpa using hi))]at ha;subst ha;simp only[dZ,Act.put,List.setIfInBounds_toArray,List.set_cons_succ,List.set_cons_zero];have wm:=(Q.O.mt.dE.trans (qh.mono Q.O.mt.size)).grown uT (Nat.le_trans Q.O.mt.size qh.size) (fun g q=>by injection q with q;omega);have gG:=(Q.O.mt.ok.below (Qn _) qh).grown uT (fun g q=>by injection q with q;subst q;exact Q.O.fr);clear hC gH;go_wp2;refine bodyPost_ret (N8 rfl _ _ _ rfl bI rfl Tryz.underlying35 lV) rfl ?_;rw[HP.O];exact⟨_,_,J,rfl,VA.O,VX.O,Q.O.ex,gG,wm⟩
 |error z=>
  obtain⟨rfl,hb⟩:=hd;have hz:(z==0)=false:=by simpa using Dz.O z rfl
  by_cases Us:65536<c.length
  ·have q1:decide ((65536:Int)<(c.length:Int))=true:=Qt (by omega);have HP:=Qh (show P=(zE,false) by rw[←JG.O,Im,if_pos Us]);clear Us JG;have k5:=Qh ((M4.O.aA hb).past (.cells aC 35));have Dn:=(M4.O.aA hb).mt.ok.fresh (Qn _);have EG:=(M4.O.aA hb).lt;have H5:=Qh (heap_alloc_new w5 (.cells aC 35));clear hb M4
   go_wp2_with (first
                |(refine nO rfl rfl 35 _ _ rfl w5.heap.size 0 aC.toList (.agg aC) (by simp[Act.eval,Act.put]) (by simp[Act.eval,Act.put]) (by rfl) aC 35 H5.O (by simp) lV (by simp[Value.oneCell']) aC (by rfl) ?_
                  intro w6 tC zA;have M6:=Qh (k5.O.new tC Dn EG);clear H5)
                |(refine nO rfl rfl 35 _ _ rfl w.heap.size 0 aC.toList (.agg aC) (by simp[Act.eval,Act.put]) (by simp[Act.eval,Act.put]) (by rfl) aC 35 M6.O.res (by simp) lV (by simp[Value.oneCell']) aC (by rfl) ?_
                  intro w7 j5 Ip))
   go_wp2;refine bodyPost_ret (N8 rfl _ _ _ rfl Ip rfl Tryz.underlying35 lV) rfl ?_;rw[HP.O];exact⟨.slice none 0 0,.slice none 0 0,I,rfl,bf.nil _ _,bf.nil _ _,Ext.refl _ _,M6.O.mt.ok.grown j5 (fun g q=>by injection q with q;subst q;exact M6.O.fr),M6.O.mt.dE.grown j5 M6.O.mt.size (fun g q=>by injection q with q;omega)⟩
  ·have q1:decide ((65536:Int)<(c.length:Int))=false:=Qf (by omega);have UC:=Qh (show P=Lr R2 by rw[←JG.O,Im,if_neg Us]);clear JG;have k5:=Qh ((M4.O.aA hb).past (.cells aC 35));have Dn:=(M4.O.aA hb).mt.ok.fresh (Qn _);have EG:=(M4.O.aA hb).lt;have H5:=Qh (heap_alloc_new w5 (.cells aC 35));clear hb M4
   go_wp2_with (refine nO rfl rfl 35 _ _ rfl w5.heap.size 0 aC.toList (.agg aC) (by simp[Act.eval,Act.put]) (by simp[Act.eval,Act.put]) (by rfl) aC 35 H5.O (by simp) lV (by simp[Value.oneCell']) aC (by rfl) ?_
                intro w6 tC zA;have M6:=Qh (k5.O.new tC Dn EG))
   go_wp2_with fail
   refine(Cu.O _ M6.O.mt.ok).mono ?_;rintro e7 w7 ⟨rfl,jC⟩;have M7:=Qh (M6.O.aA jC);clear jC M6;go_wp2_with fail
   refine(JF.O _ M7.O.mt.ok).mono ?_;rintro e8 w8 ⟨rfl,oN⟩;have M8:=Qh (M7.O.aA oN);clear oN M7;go_wp2_with fail
   refine(Lu.O w8.heap.size (w8.alloc (.cells #[S c] 9)) (by rw[World.cell?_alloc_new];rfl) (by simp)).mono ?_;rintro e9 w9 ⟨rfl,ig⟩;have M9:=Qh ((M8.O.past (.cells #[S c] 9)).aA ig);clear ig M8;go_wp2_with fail
   refine(Ps.O _ M9.O.mt.ok).mono ?_;rintro e10 Dj ⟨rfl,rC⟩;have sK:=Qh (M9.O.aA rC);clear rC M9;go_upto_if 59 with fail
   go_cut [10] (fun s10 wx=>s10=S tf∧xX I w I wx)
   case first=>
    by_cases nk:c=[]
    ·have OT:=Qh (show u2++p0=tf by have:=HF.O;rwa[if_pos nk]at this);have d4:¬9223372036854775807<u2.length+p0.length:=by omega
     clear HF;subst nk;go_wp2_with fail
     refine(qV.O _ sK.O.mt.ok).mono ?_;rintro e11 UD ⟨rfl,EH⟩;have Cv:=Qh (sK.O.aA EH);clear EH sK;go_wp2_with fail
     go_meet;case rel=>exact⟨by rw[←OT.O],Cv.O⟩
    ·have OT:=Qh (show u2++(((Og++p0)++p0)++pc)=tf by have:=HF.O;rwa[if_neg nk]at this);have g1:¬9223372036854775807<Og.length+p0.length:=by omega
     have g2:¬9223372036854775807<(Og++p0).length+p0.length:=by rw[List.length_append];omega
     have g3:¬9223372036854775807<(Og++p0++p0).length+pc.length:=by rw[List.length_append,List.length_append];omega
     have g4:¬9223372036854775807<u2.length+(Og++p0++p0++pc).length:=by rw[List.length_append,List.length_append,List.length_append];omega
     obtain⟨x1,gK⟩:∃v,Og++p0=v:=⟨_,rfl⟩;rw[gK]at g2 g3 g4 OT;obtain⟨x2,fM⟩:∃v,x1++p0=v:=⟨_,rfl⟩;rw[fM]at g3 g4 OT;obtain⟨x3,rO⟩:∃v,x2++pc=v:=⟨_,rfl⟩;rw[rO]at g4 OT;clear HF;obtain⟨ca,cr,rfl⟩:∃a r,c=a::r:=by
      cases hcc:c with
      |nil=>exact absurd hcc nk
      |cons a r=>exact⟨a,r,rfl⟩
     clear nk;go_wp2_with fail
     refine(yT.O _ sK.O.mt.ok).mono ?_;rintro e11 UD ⟨rfl,EH⟩;have Cv:=Qh (sK.O.aA EH);clear EH sK;go_wp2_with fail
     refine(qV.O _ Cv.O.mt.ok).mono ?_;rintro e12 w12 ⟨rfl,lG⟩;have Yv:=Qh (Cv.O.aA lG);clear lG Cv;go_wp2_with fail
     refine(qV.O _ Yv.O.mt.ok).mono ?_;rintro e13 w13 ⟨rfl,QQ⟩;have Yw:=Qh (Yv.O.aA QQ);clear QQ Yv;go_wp2_with fail
     refine(JF.O _ Yw.O.mt.ok).mono ?_;rintro e14 w14 ⟨rfl,QR⟩;have M14:=Qh (Yw.O.aA QR);clear QR Yw;go_wp2_with fail
     go_meet;case rel=>exact⟨by rw[←OT.O],M14.O⟩
   case rest=>
    obtain⟨rfl,hM⟩:=hcut;have MA:=Qh hM;clear hM sK;go_wp2_with fail
    refine(Lj.O _ MA.O.mt.ok).mono ?_;intro eB wB hd;cases R2 with
    |ok p=>
     obtain⟨p,bb⟩:=p;obtain⟨va,vx,J,rfl,eP,eT,hx,gG,hb⟩:=hd;obtain⟨bk,q2⟩:∃bk,(p.ai==1)=bk:=⟨_,rfl⟩;have HP:=Qh (show P=(p,bk) by rw[UC.O,←q2];rfl);have q3:((0:Int)==0)=true:=rfl;have q4:(p.ai==1)=bk:=q2;clear UC;obtain⟨xa,ca,rfl,_,_,_⟩:=id eP;obtain⟨xx,cx,rfl,_,_,_⟩:=id eT;have VA:=Qh eP;have VX:=Qh eT;have kB:=Qh ((MA.O.ext hb hx gG).past (.cells aC 35));have Dn:=gG.fresh (Qn _);have Iq:=(MA.O.aA hb).lt;have HB:=Qh (heap_alloc_new wB (.cells aC 35));clear eP eT hx gG hb MA
     go_wp2_with (refine nO rfl rfl 35 _ _ rfl wB.heap.size 0 (aZ p (.slice xa p.ag.length ca) (.slice xx p.ak.length cx)).toList (fB p (.slice xa p.ag.length ca) (.slice xx p.ak.length cx)) (by simp[Act.eval,Act.put]) (by simp[Act.eval,Act.put]) (by rfl) aC 35 HB.O (by simp) lV (by simp[Value.oneCell']) (aZ p (.slice xa p.ag.length ca) (.slice xx p.ak.length cx)) (by rfl) ?_
                  intro wC Yx Yy;have Q:=Qh (kB.O.new Yx Dn Iq);obtain⟨y0,y1,y2,y3,y4,y5,y6⟩:=ent_row Yy)
     go_wp2_with fail
     refine uW (X:=Unit) (edL (fB p (.slice xa p.ag.length ca) (.slice xx p.ak.length cx)) wB.heap.size c 0 p.ai bk) (vX wC 221 231 222 232 223 233 224 234 (fun _ _=>True) (fun _ _=>True) (fun _ _=>True) (fun _ _=>True) (fun _ _=>True) (fun _ _=>True) (fun x=>w.heap.size) 35 8 211 212 (fun x=>aZ p (.slice xa p.ag.length ca) (.slice xx p.ak.length cx)) (fun x=>aZ p (.slice xa p.ag.length ca) (.slice xx p.ak.length cx)) (fun x=>aZ p (.slice xa p.ag.length ca) (.slice xx p.ak.length cx))) (by kernel_rfl) (by kernel_rfl) ?_ ?_ ?_
     ·exact⟨(),vX.start _ _ trivial⟩
     ·rintro x s' a' w' i eU gI ha hC hi;obtain⟨aV,oi,eX,aB⟩:=mem_ready.1 hi;have ev:=zC UB ha;have hlt:=yI aV;rcases i with _|_|_|_|_|_|_|_|_|_|i
      rotate_left 10
      ·simp at eX
      all_goals
       have fZ:=eX;simp at eX;subst eX;simp[Region.binds]at aB;try have hl:=xW 6 8 gI (by decide+kernel) aV
       try have dH:=hC.off hl
       have y0:=hC.cell y0 (by show w.heap.size≠wB.heap.size;omega);have y1:=hC.cell y1 (by show w.heap.size≠wB.heap.size;omega);have y2:=hC.cell y2 (by show w.heap.size≠wB.heap.size;omega);have y3:=hC.cell y3 (by show w.heap.size≠wB.heap.size;omega);have y4:=hC.cell y4 (by show w.heap.size≠wB.heap.size;omega);have y5:=hC.cell y5 (by show w.heap.size≠wB.heap.size;omega);have y6:=hC.cell y6 (by show w.heap.size≠wB.heap.size;omega);refine wpOp_step fZ (fun K' hK=> ?_);first|rw[if_pos (by rfl)]|rw[if_pos (by unfold Region.wanted;dsimp only;rw[xw (j:=3) (t:=83) (b:=true) (by rfl) (by simp[ev,fG,aB])];rfl)]
      rotate_left 8
      ·have bI:w'.heap[w.heap.size]?=some (.cells _ 35 (0,0)):=(dH.block _ (Qg Q.O.res)).trans Q.O.res;refine GZ 35 _ _ rfl (w.heap.size) 0 (aZ p (.slice xa p.ag.length ca) (.slice xx p.ak.length cx)).toList (fB p (.slice xa p.ag.length ca) (.slice xx p.ak.length cx)) (by simp[Act.eval,ev,fG,aB]) (by simp[Act.eval,ev,fG,aB]) (by rfl) _ _ bI (by simp) (by kernel_rfl) (by simp[Value.oneCell']) ?_;exact hK _ _ ⟨x,j6 (d:=none) (v:=undef) UB ha rfl aV,hC.Ab aV trivial (Eg (by simp[eU])) (Eg (by simp[eU])) (by decide) bI (by rfl)⟩
      all_goals
       unfold Oper.wp;first
       |(simp[go_sem,ev,fG,aB,Oper.upon,y0,y1,y2,y3,y4,y5,y6,q1,q2,q3,q4];exact hK _ _ ⟨x,iF UB ha rfl aV,hC.pure (by decide)⟩)
       |(simp[go_sem,ev,fG,Oper.upon,y0,y1,y2,y3,y4,y5,y6,q1,q2,q3,q4];exact hK _ _ ⟨x,iF UB ha rfl aV,hC.pure (by decide)⟩)
     ·rintro x s' a' wE gH ha hC;obtain⟨wb,qh,Io,uT,bI⟩:=hC.on (gH 8 (by decide));simp only[ite_self]at bI;rw[vB _ _ _ _ (fun i hi=>by rw[Nat.zero_add];exact gH i (by simpa using hi))]at ha;subst ha;simp only[dZ,Act.put,List.setIfInBounds_toArray,List.set_cons_succ,List.set_cons_zero];have wm:=(Q.O.mt.dE.trans (qh.mono Q.O.mt.size)).grown uT (Nat.le_trans Q.O.mt.size qh.size) (fun g q=>by injection q with q;omega);have gG:=(Q.O.mt.ok.below (Qn _) qh).grown uT (fun g q=>by injection q with q;subst q;exact Q.O.fr);clear hC gH;go_wp2;refine bodyPost_ret (N8 rfl _ _ _ rfl bI rfl Tryz.underlying35 lV) rfl ?_;rw[HP.O];exact⟨_,_,J,rfl,VA.O,VX.O,Q.O.ex,gG,wm⟩
    |error z2=>
     obtain⟨rfl,hb⟩:=hd;have q2:(z2==0)=false:=by simpa using J9.O z2 rfl
     have HP:=Qh (show P=(zE,false)from UC.O);have q3:(z2==0)=false:=q2;have q4:(z2==0)=false:=q2;clear UC;have kB:=Qh ((MA.O.aA hb).past (.cells aC 35));have Dn:=(MA.O.aA hb).mt.ok.fresh (Qn _);have Iq:=(MA.O.aA hb).lt;have HB:=Qh (heap_alloc_new wB (.cells aC 35));clear hb MA
     go_wp2_with (refine nO rfl rfl 35 _ _ rfl wB.heap.size 0 aC.toList (.agg aC) (by simp[Act.eval,Act.put]) (by simp[Act.eval,Act.put]) (by rfl) aC 35 HB.O (by simp) lV (by simp[Value.oneCell']) aC (by rfl) ?_
                  intro wC Yx Yy;have MC:=Qh (kB.O.new Yx Dn Iq))
     have Q:=MC;obtain⟨y0,y1,y2,y3,y4,y5,y6⟩:=ent_row (e:=zE) (va:= .slice none 0 0) (vx:= .slice none 0 0) Yy;have VA:=Qh (bf.nil lT I);have VX:=Qh (bf.nil mr I);have al7:=Iq;go_wp2_with fail
     refine uW (X:=Unit) (eeL (fB zE (.slice none 0 0) (.slice none 0 0)) wB.heap.size c z2 0 false) (vX wC 221 231 222 232 223 233 224 234 (fun _ _=>True) (fun _ _=>True) (fun _ _=>True) (fun _ _=>True) (fun _ _=>True) (fun _ _=>True) (fun x=>w.heap.size) 35 8 211 212 (fun x=>aZ zE (.slice none 0 0) (.slice none 0 0)) (fun x=>aZ zE (.slice none 0 0) (.slice none 0 0)) (fun x=>aZ zE (.slice none 0 0) (.slice none 0 0))) (by kernel_rfl) (by kernel_rfl) ?_ ?_ ?_
     ·exact⟨(),vX.start _ _ trivial⟩
     ·rintro x s' a' w' i eU gI ha hC hi;obtain⟨aV,oi,eX,aB⟩:=mem_ready.1 hi;have ev:=zC Lt ha;have hlt:=yI aV;rcases i with _|_|_|_|_|_|_|_|_|_|i
      rotate_left 10
      ·simp at eX
      all_goals
       have fZ:=eX;simp at eX;subst eX;simp[Region.binds]at aB;try have hl:=xW 6 8 gI (by decide+kernel) aV
       try have dH:=hC.off hl
       have y0:=hC.cell y0 (by show w.heap.size≠wB.heap.size;omega);have y1:=hC.cell y1 (by show w.heap.size≠wB.heap.size;omega);have y2:=hC.cell y2 (by show w.heap.size≠wB.heap.size;omega);have y3:=hC.cell y3 (by show w.heap.size≠wB.heap.size;omega);have y4:=hC.cell y4 (by show w.heap.size≠wB.heap.size;omega);have y5:=hC.cell y5 (by show w.heap.size≠wB.heap.size;omega);have y6:=hC.cell y6 (by show w.heap.size≠wB.heap.size;omega);refine wpOp_step fZ (fun K' hK=> ?_);first|rw[if_pos (by rfl)]|skip
      rotate_left 4
      ·rw[if_neg (by unfold Region.wanted;dsimp only;rw[xw (j:=3) (t:=83) (b:=false) (by rfl) (by simp[ev,fG,aB])];decide)];exact hK _ _ ⟨x,iF Lt ha rfl aV,hC.pure (by decide)⟩
      ·rw[if_neg (by unfold Region.wanted;dsimp only;rw[xw (j:=3) (t:=83) (b:=false) (by rfl) (by simp[ev,fG,aB])];decide)];exact hK _ _ ⟨x,iF Lt ha rfl aV,hC.pure (by decide)⟩
      ·rw[if_neg (by unfold Region.wanted;dsimp only;rw[xw (j:=3) (t:=83) (b:=false) (by rfl) (by simp[ev,fG,aB])];decide)];exact hK _ _ ⟨x,iF Lt ha rfl aV,hC.pure (by decide)⟩
      rotate_left 1
      ·have bI:w'.heap[w.heap.size]?=some (.cells _ 35 (0,0)):=(dH.block _ (Qg Q.O.res)).trans Q.O.res;refine GZ 35 _ _ rfl (w.heap.size) 0 (aZ zE (.slice none 0 0) (.slice none 0 0)).toList (fB zE (.slice none 0 0) (.slice none 0 0)) (by simp[Act.eval,ev,fG,aB]) (by simp[Act.eval,ev,fG,aB]) (by rfl) _ _ bI (by simp) (by kernel_rfl) (by simp[Value.oneCell']) ?_;exact hK _ _ ⟨x,j6 (d:=none) (v:=undef) Lt ha rfl aV,hC.Ab aV trivial (Eg (by simp[eU])) (Eg (by simp[eU])) (by decide) bI (by rfl)⟩
      all_goals
       unfold Oper.wp;first
       |(simp[go_sem,ev,fG,aB,Oper.upon,y0,y1,y2,y3,y4,y5,y6,q1,q2,q3,q4];exact hK _ _ ⟨x,iF Lt ha rfl aV,hC.pure (by decide)⟩)
       |(simp[go_sem,ev,fG,Oper.upon,y0,y1,y2,y3,y4,y5,y6,q1,q2,q3,q4];exact hK _ _ ⟨x,iF Lt ha rfl aV,hC.pure (by decide)⟩)
     ·rintro x s' a' wE gH ha hC;obtain⟨wb,qh,Io,uT,bI⟩:=hC.on (gH 8 (by decide));simp only[ite_self]at bI;rw[vB _ _ _ _ (fun i hi=>by rw[Nat.zero_add];exact gH i (by simpa using hi))]at ha;subst ha;simp only[dZ,Act.put,List.setIfInBounds_toArray,List.set_cons_succ,List.set_cons_zero];have wm:=(Q.O.mt.dE.trans (qh.mono Q.O.mt.size)).grown uT (Nat.le_trans Q.O.mt.size qh.size) (fun g q=>by injection q with q;omega);have gG:=(Q.O.mt.ok.below (Qn _) qh).grown uT (fun g q=>by injection q with q;subst q;exact Q.O.fr);clear hC gH;go_wp2;refine bodyPost_ret (N8 rfl _ _ _ rfl bI rfl Tryz.underlying35 lV) rfl ?_;rw[HP.O];exact⟨_,_,I,rfl,VA.O,VX.O,Q.O.ex,gG,wm⟩
theorem Yz{x:aG}(h:fV x=false):x.af.length≤300∧x.target.length≤300∧x.aj.length≤100∧x.ak.length≤30:=by
 simp[fV]at h;omega
structure zD (n:Nat) (s:jI):Prop where
 ok:BU n s
 JH:vE s.aI
theorem YA:zD 0 lF:=⟨Xrv,fun _ h=>(by cases h)⟩
theorem zD.mono{s:jI}(h:zD n s)(hm:n≤m):zD m s:=⟨h.ok.mono hm,h.JH⟩
theorem UE{s:jI}(h:zD n s)(e:aG)(d:Int)(hp:e.af.length≤300)(ht:e.target.length≤300):zD (n+1) (dY s e d).1:=by
 refine⟨WI h.ok e d,?_⟩;unfold dY;split
 ·exact h.JH
 ·rename_i h1;split
  ·exact h.JH
  ·split
   ·exact h.JH
   ·have ha:=PI (t:=s.aI) (e:=e) (by omega);obtain⟨_,hx⟩:=lv.1 ha;intro z hz;rw[hx]at hz;rcases(Xst h.ok.aI.DF e z).1 hz with⟨_,rfl⟩|⟨hz,_⟩
    ·omega
    ·exact h.JH z hz
theorem Xr1:∀(l:List aG) {n:Nat} {s:jI} (_:zD n s) (d:Int),(∀e∈l,e.af.length≤300∧e.target.length≤300)→zD (n+l.length) (vz s d l)
 | [],_,_,h,_,_=>h
 |e::l,n,s,h,d,hl=>by
  have he:=hl e (List.mem_cons_self ..);have:=Xr1 l (UE h e d he.1 he.2) d fun x hx=>hl x (List.mem_cons_of_mem _ hx);exact this.mono (by simp;omega)
theorem Xun:∀(l:List bR) {n:Nat} {s:jI} (_:zD n s),(∀x∈l,jA x)→zD (n+30*l.length) (rf s l)
 | [],_,_,h,_=>h
 |x::l,n,s,h,hl=>by
  have hx:=hl x (List.mem_cons_self ..);have h1:=Xr1 x.ay h x.aN fun e he=>⟨hx.af e he,hx.target e he⟩;have:=Xun l h1 fun y hy=>hl y (List.mem_cons_of_mem _ hy);have hn:=hx.mi;exact this.mono (by simp only[List.length_cons];omega)
def pairs(l:List bR):List (bR×aG):=l.flatMap fun s=>s.ay.map fun e=>(s,e)
def Bv(s:jI)(q:bR×aG):jI:=(dY s q.2 q.1.aN).1
theorem Xln(x:bR):∀(l:List aG) (s:jI),vz s x.aN l=(l.map fun e=>(x,e)).foldl Bv s
 | [],_=>rfl
 |e::l,s=>by
  rw[List.map_cons,List.foldl_cons];exact Xln x l _
theorem Xnl:∀(l:List bR) (s:jI),rf s l=(pairs l).foldl Bv s
 | [],_=>rfl
 |x::l,s=>by
  rw[pairs,List.flatMap_cons,List.foldl_append,←Xln];exact Xnl l _
def YB(p:ae):jI→List (bR×aG)→List FT
 |_,[]=> []
 |s,q::r=>(if D9 s p q.2 then [⟨q.1.num,q.1.aN,q.2⟩]else [])++YB p (Bv s q) r
theorem Xl5:∀{l:List bR},(∀x∈l,jA x)→(pairs l).length≤30*l.length
 | [],_=>Qn _
 |x::l,h=>by
  have h1:=(h x (List.mem_cons_self ..)).mi;have h2:=Xl5 (l:=l) fun y hy=>h y (List.mem_cons_of_mem _ hy);rw[pairs,List.flatMap_cons,List.length_append,List.length_map,List.length_cons];have:(List.flatMap (fun s:bR=>List.map (fun e=>(s,e)) s.ay) l).length≤30*l.length:=h2;omega
theorem Xp3:∀(l:List (bR×aG)) {n:Nat} {s:jI} (_:zD n s),(∀q∈l,q.2.af.length≤300∧q.2.target.length≤300)→zD (n+l.length) (l.foldl Bv s)
 | [],_,_,h,_=>h
 |q::l,n,s,h,hl=>by
  have he:=hl q (List.mem_cons_self ..);have:=Xp3 l (UE h q.2 q.1.aN he.1 he.2) fun x hx=>hl x (List.mem_cons_of_mem _ hx);exact this.mono (by simp;omega)
theorem Xti(l:List (bR×aG))(q:bR×aG)(s:jI):(l++[q]).foldl Bv s=(dY (l.foldl Bv s) q.2 q.1.aN).1:=by simp[Bv]
def sM(s:bR):Bool:=decide (100<s.aW.length) || (decide (1000<s.aH.length) || (decide (2100<s.sl.length) || ((decide (12<s.ay.length)&&decide (s.ay.length≠401)) || s.ay.any fV)))
def oD(s:bR):Bool:=decide (30<s.ay.length) || sM s
def UF(s:bR):Nat:=s.aH.length+10*s.ay.length
def xY(l:List bR):Nat:=(l.map UF).sum
def vI(l:List bR):Bool:=decide (8<l.length) || (l.any oD || decide (20000<xY l))
structure bR.Wf (s:bR):Prop where
 num: -9223372036854775808≤s.num∧s.num≤9223372036854775807
 aN: -9223372036854775808≤s.aN∧s.aN≤9223372036854775807
 ay:∀e∈s.ay,e.Wf
theorem YC{s:bR}(h:sM s=false):s.aW.length≤100∧s.aH.length≤1000∧s.sl.length≤2100∧(s.ay.length≤12∨s.ay.length=401)∧ ∀e∈s.ay,fV e=false:=by
 unfold sM at h;simp only[Bool.or_eq_false_iff,Bool.and_eq_false_iff,decide_eq_false_iff_not]at h;obtain⟨h1,h2,h3,h4,h5⟩:=h;refine⟨by omega,by omega,by omega,by omega,fun e he=> ?_⟩;have:=List.any_eq_false.1 h5 e he;simpa using this
theorem Xp2{s:bR}(hw:s.Wf)(h:oD s=false):jA s:=by
 unfold oD at h;simp only[Bool.or_eq_false_iff,decide_eq_false_iff_not]at h;obtain⟨h1,h2,h3,h4,h5⟩:=And.intro h.1 (YC h.2);exact⟨by omega,h3,h2,h4,hw.ay,fun e he=>(Yz (h5.2 e he)).1,fun e he=>(Yz (h5.2 e he)).2.1,fun e he=>(Yz (h5.2 e he)).2.2.2,hw.num,hw.aN⟩
theorem YD(hw:∀x∈l,x.Wf)(h:vI l=false):l.length≤8∧(∀x∈l,jA x)∧xY l≤20000:=by
 unfold vI at h;simp only[Bool.or_eq_false_iff,decide_eq_false_iff_not]at h;obtain⟨h1,h2,h3⟩:=h;refine⟨by omega,fun x hx=>Xp2 (hw x hx) ?_,by omega⟩;have:=List.any_eq_false.1 h2 x hx;simpa using this
theorem Xur(hk:k<l.length){x:bR}(hx:l[k]=x):xY (l.take (k+1))=xY (l.take k)+UF x:=by
 unfold xY;rw[List.take_succ_eq_append_getElem hk,hx];simp
theorem any_take_succ{l:List α}(hk:k<l.length){x:α}(hx:l[k]=x)(h1:(l.take k).any p=false)(h2:p x=false):(l.take (k+1)).any p=false:=by
 rw[List.take_succ_eq_append_getElem hk,hx,List.any_append,h1];simp[h2]
theorem YE{l:List α}(hk:k<l.length){x:α}(hx:l[k]=x)(h:p x=true):l.any p=true:=
 List.any_eq_true.2 ⟨x,by rw[←hx];exact List.getElem_mem hk,h⟩
theorem Xzd(h:∀x∈l,x.aH.length≤1000∧x.ay.length≤30):xY l≤1300*l.length:=by
 unfold xY;induction l with
 |nil=>simp
 |cons x l ih=>
  have h1:=h x (List.mem_cons_self ..);have h2:=ih fun y hy=>h y (List.mem_cons_of_mem _ hy);rw[List.map_cons,List.sum_cons,List.length_cons];have:UF x≤1300:=by unfold UF;omega
  omega
def QS(x y:aG):Prop:=x.af=y.af∧meaning x y=true
def YF:List aG→List aG→Prop
 | [],[]=>True
 |x::a,y::b=>QS x y∧YF a b
 |_,_=>False
def aK(L:List bR):List ae:=L.map bR.aH
def jr(st:List ae)(e:aG):ae×Int:=
 if e.ai≠1 then([],10)
 else if(l7 st e.ak).2≠0 then([],(l7 st e.ak).2)
 else if((l7 st e.ak).1.length:Int)≠e.size∨dM (l7 st e.ak).1≠e.aj then([],5)
 else((l7 st e.ak).1,0)
theorem Xud(h:(jr st e).2=0):e.ai=1∧((jr st e).1.length:Int)=e.size∧dM (jr st e).1=e.aj:=by
 unfold jr at*;split at h
 ·cases h
 ·rename_i k1;split at h
  ·contradiction
  ·rename_i k2;split at h
   ·cases h
   ·rename_i k3;rw[if_neg k1,if_neg k2,if_neg k3];have h1:((l7 st e.ak).1.length:Int)=e.size:=Classical.byContradiction fun q=>k3 (.inl q);have h2:dM (l7 st e.ak).1=e.aj:=Classical.byContradiction fun q=>k3 (.inr q);exact⟨by omega,h1,h2⟩
theorem Xtc(st:List ae):∀(l:List Xt) (out:ae),out.length≤65536→(jV st l out).1.length≤65536
 | [],out,h=>h
 |x::l,out,h=>by
  rw[jV];split
  ·simp
  ·split
   ·simp
   ·split
    ·simp
    ·rename_i k3;apply Xtc st l;rw[List.length_append];split
     ·rw[List.length_replicate];omega
     ·rw[List.length_take];omega
theorem YG(st:List ae)(l:List Xt):(l7 st l).1.length≤65536:=Xtc st l [] (by simp)
theorem Xyh(st:List ae)(e:aG):(jr st e).1.length≤65536:=by
 unfold jr;split
 ·simp
 ·split
  ·simp
  ·split
   ·simp
   ·exact YG _ _
def cZ(st:List ae)(x:aG):ae×Int:=if x.ai=1 then jr st x else([],0)
def piece(st:List ae)(x:aG):ae:=aS (dD x)++aS (cZ st x).1
def Ak(st:List ae):List aG→ae→ae×Int
 | [],out=>(out,0)
 |x::l,out=>if(cZ st x).2≠0 then([],(cZ st x).2)else Ak st l (out++piece st x)
def Ir(st:List ae)(t:List aG):ae×Int:=Ak st t (aY t.length)
def jB(L:List bR)(aN:Int):List aG:=(rf lF (L.take (oZ aN L))).aI
def Cw(L:List bR)(aN:Int):ae×Int:=Ir (aK L) (jB L aN)
theorem UG(st:List ae)(x:aG):(cZ st x).1.length≤65536:=by
 unfold cZ;split
 ·exact Xyh _ _
 ·simp
theorem Xww(st:List ae):∀(t:List aG) (out:ae),(Ak st t out).2=0→(∀x∈t,(cZ st x).2=0)∧(Ak st t out).1=out++t.flatMap (piece st)
 | [],out,_=>⟨fun _ h=>(by cases h),by simp[Ak]⟩
 |x::t,out,h=>by
  rw[Ak]at h ⊢;split at h
  ·contradiction
  ·rename_i k;rw[if_neg k];obtain⟨h1,h2⟩:=Xww st t _ h;refine⟨fun y hy=> ?_,by rw[h2];simp⟩;rcases List.mem_cons.1 hy with rfl|hy
   ·omega
   ·exact h1 y hy
theorem Xvi(ht:iQ t){x:aG}(h:x∈Gv t e):x∈t∨x=e:=by
 rcases(Xst ht e x).1 h with⟨_,rfl⟩|⟨hx,_⟩
 ·exact .inr rfl
 ·exact .inl hx
theorem Xpc(d:Int):∀(es:List aG) (s:jI) (n:Nat),BU n s→wh d s es→ ∀x∈(vz s d es).aI,x∈s.aI∨x∈es
 | [],_,_,_,_,x,hx=> .inl hx
 |e::es,s,n,hs,⟨h1,h2⟩,x,hx=>by
  rcases Xpc d es _ _ (WI hs e d) h2 x hx with h|h
  ·rw[(step_ok h1).2.1]at h;rcases Xvi hs.aI.DF h with h|h
   ·exact .inl h
   ·exact .inr (by simp[h])
  ·exact .inr (by simp[h])
theorem Xwf:∀{xs:List bR} {i:Nat} {s:jI} {aW:ae} {aN:Int} (n:Nat),BU n s→eO l i s aW aN xs=0→
 ∀x∈(rf s xs).aI,x∈s.aI∨ ∃j,j<xs.length∧gP (l.take (i+j+1)) x=true
 | [],i,s,aW,aN,n,hs,h,x,hx=> .inl hx
 |y::xs,i,s,aW,aN,n,hs,h,x,hx=>by
  obtain⟨_,h2,h3,h4⟩:=Ut h;have Vn:x∈(rf (vz s y.aN y.ay) xs).aI:=hx;rcases Xwf _ (WJ y.ay hs y.aN) h4 x Vn with k|⟨j,k1,k2⟩
  ·rcases Xpc y.aN y.ay s n hs h2 x k with k|k
   ·exact .inl k
   ·exact .inr ⟨0,by simp,h3 x k⟩
  ·exact .inr ⟨j+1,by simp;omega,by rw[show i+(j+1)+1=i+1+j+1 by omega];exact k2⟩
theorem Xrl(h:m≤k){x:Xt}(h0:0≤x.s)(hx:mU (l.take m) x=true):mU (l.take k) x=true:=by
 unfold mU at*;rw[Bool.or_eq_true]at*;rcases hx with hx|hx
 ·exact .inl hx
 ·by_cases hs:x.s=0
  ·exact .inl (by simpa using hs)
  ·right;rw[Bool.and_eq_true,decide_eq_true_iff,decide_eq_true_iff]at*;obtain⟨h1,h2⟩:=hx;rw[List.length_take]at h1;have hlt:(x.s-1).toNat<m:=by omega
   rw[List.getElem?_take,if_pos hlt]at h2;rw[List.getElem?_take,if_pos (by omega),List.length_take];exact⟨by omega,h2⟩
theorem Xrr(n:Nat):FM (rf lF (l.take n)).aI:=by
 have key:∀(xs:List bR) (m:Nat) (s:jI),BU m s→ ∃k,BU k (rf s xs):=by
  intro xs;induction xs with
  |nil=>intro m s h;exact⟨m,h⟩
  |cons x xs ih=>intro m s h;exact ih _ _ (WJ x.ay h x.aN)
 obtain⟨k,hk⟩:=key (l.take n) 0 lF Xrv;exact hk.aI
theorem Xj5{d:Int}:∀{es:List aG} {s:jI},wh d s es→ ∀e∈es,az e=0
 | [],_,_,e,he=>by cases he
 |x::es,s,⟨h1,h2⟩,e,he=>by
  rcases List.mem_cons.1 he with rfl|he
  ·exact(step_ok h1).2.2
  ·exact Xj5 h2 e he
theorem YH:∀{xs:List bR} {i:Nat} {s:jI} {aW:ae} {aN:Int},eO l i s aW aN xs=0→
 ∀(j:Nat) (x:bR),xs[j]?=some x→ ∀e∈x.ay,az e=0∧gP (l.take (i+j+1)) e=true
 | [],_,_,_,_,_,j,x,hx=>by simp at hx
 |y::xs,i,s,aW,aN,h,j,x,hx=>by
  obtain⟨_,h2,h3,h4⟩:=Ut h;cases j with
  |zero=>
   have:y=x:=by simpa using hx
   subst this;exact fun e he=>⟨Xj5 h2 e he,h3 e he⟩
  |succ j=>
   have:=YH h4 j x (by simpa using hx);rw[show i+(j+1)+1=i+1+j+1 by omega];exact this
theorem Xj1:∀{l:List Xt} (out:ae),(∀x∈l,uA st x=uA st' x∧(0<x.s→lK st x=lK st' x))→jV st l out=jV st' l out
 | [],_,_=>rfl
 |x::l,out,h=>by
  obtain⟨h1,h2⟩:=h x (by simp);have ih:∀o,jV st l o=jV st' l o:=fun o=>Xj1 (l:=l) o fun y hy=>h y (by simp[hy]);rw[jV,jV,h1];by_cases hs:0<x.s
  ·rw[h2 hs,ih]
  ·by_cases hg:uA st' x=true
   ·rw[if_pos hg,if_pos hg]
   ·have h0:x.s=0:=by
     refine Classical.byContradiction fun q=>hg ?_;unfold uA;rw[Qt (show x.s<0 by omega)];simp
    rw[if_neg hg,if_neg hg];simp[h0,ih]
theorem Xv1(h:m≤k)(he:az e=0)(hs:gP (l.take m) e=true):l7 (aK (l.take k)) e.ak=l7 (aK (l.take m)) e.ak:=by
 unfold l7;apply Xj1;intro x hx;have hb:=(Bn he).NS x hx;unfold gP at hs;have kD:=List.all_eq_true.1 hs x hx;have aaJ:=Xrl h hb.1 kD;have hlen:∀n,((aK (l.take n)).length:Int)=(l.take n).length:=fun n=>by simp[aK]
 have CR:∀n,mU (l.take n) x=true→ ¬((aK (l.take n)).length:Int)<x.s:=by
  intro n hn;rw[hlen];unfold mU at hn;rw[Bool.or_eq_true]at hn;rcases hn with hn|hn
  ·have:x.s=0:=by simpa using hn
   omega
  ·rw[Bool.and_eq_true,decide_eq_true_iff]at hn;omega
 constructor
 ·unfold uA;rw[Qf (CR k aaJ),Qf (CR m kD)]
 ·intro vN;have:=CR m kD;rw[hlen,List.length_take]at this;unfold lK aK;have hlt:(x.s-1).toNat<m:=by omega
  simp only[List.getD_eq_getElem?_getD,List.getElem?_map,List.getElem?_take,if_pos hlt,if_pos (show(x.s-1).toNat<k by omega)]
theorem Xke(h:m≤k)(he:az e=0)(hs:gP (l.take m) e=true):jr (aK (l.take k)) e=jr (aK (l.take m)) e:=by
 unfold jr;rw[Xv1 h he hs]
theorem YI(d:Int):∀(l:List bR),oZ d l≤l.length
 | []=>Qn _
 |x::l=>by
  rw[oZ];split
  ·omega
  ·have:=YI d l;simp;omega
structure Rec where
 mh:Int
 dm:aG
 aU:ae
 err:Int
variable{F o:List Rec}
structure Res where
 YJ:List bR
 files:List Rec
def di(fs:List Rec)(n:Int):List Rec:=fs.filter fun f=>f.mh==n
def yU(fs:List Rec):ae:=match fs with
 | []=> [45]
 |f::_=>if f.err≠0 then [45]else [43]++aY f.aU.length++f.aU
def nE(fs:List Rec)(e:aG):ae:=aS (dD e)++(if e.ai≠1 then [43]++aY 0 else yU fs)
def kU(fs:List Rec)(e:aG):List Rec:=if e.ai≠1 then fs else fs.tail
def fu:List Rec→List aG→ae
 |_,[]=> []
 |fs,e::es=>nE fs e++fu (kU fs e) es
def kP(fs:List Rec)(s:bR):ae:=aY s.num++aY s.aN++aY s.ay.length++fu (di fs s.num) s.ay
def pQ(r:Res):ae:=r.YJ.flatMap (kP r.files)
def wo(m n:Nat):Bool:=(m >>> (n%64))%2==1
def kV(st:List ae)(m:Nat)(num:Int)(e:aG)(n:Nat):Rec:=
 if(jr st e).2≠0∨wo m n=true then⟨num,e,[],19⟩else⟨num,e,(jr st e).1,0⟩
def gV(st:List ae)(m:Nat)(num:Int):List aG→Nat→List Rec
 | [],_=> []
 |e::es,n=>if e.ai≠1 then gV st m num es n else kV st m num e n::gV st m num es (n+1)
def jb(l:List aG):Nat:=(l.filter fun e=>e.ai==1).length
def dP(st:List ae)(m:Nat):List bR→Nat→List Rec
 | [],_=> []
 |s::l,n=>gV st m s.num s.ay n++dP st m l (n+jb s.ay)
def uF(L:List bR)(m:Nat):Res:=⟨L,dP (aK L) m L 0⟩
theorem Xsd(st:List ae)(m:Nat)(num:Int)(e:aG)(n:Nat):(kV st m num e n).mh=num:=by unfold kV;split<;>rfl
theorem QT(st:List ae)(m:Nat)(num:Int):∀(l:List aG) (n:Nat),∀f∈gV st m num l n,f.mh=num
 | [],_,f,h=>by cases h
 |e::l,n,f,h=>by
  rw[gV]at h;split at h
  ·exact QT st m num l n f h
  ·rcases List.mem_cons.1 h with rfl|h
   ·exact Xsd ..
   ·exact QT st m num l _ f h
theorem YK(st:List ae)(m:Nat):∀(L:List bR) (n:Nat),∀f∈dP st m L n,∃s∈L,f.mh=s.num
 | [],_,f,h=>by cases h
 |s::L,n,f,h=>by
  rw[dP,List.mem_append]at h;rcases h with h|h
  ·exact⟨s,by simp,QT _ _ _ _ _ f h⟩
  ·obtain⟨x,hx,he⟩:=YK st m L _ f h;exact⟨x,by simp[hx],he⟩
theorem YL(m:Nat)(num:Int):∀{l:List aG} (n:Nat),(∀e∈l,jr st e=jr st' e)→gV st m num l n=gV st' m num l n
 | [],_,_=>rfl
 |e::l,n,h=>by
  rw[gV,gV,YL m num n fun x hx=>h x (by simp[hx]),YL m num (n+1) fun x hx=>h x (by simp[hx])];unfold kV;rw[h e (by simp)]
theorem Xgz(st:List ae)(m:Nat):∀(A B:List bR) (n:Nat),∃k,dP st m (A++B) n=dP st m A n++dP st m B k
 | [],B,n=>⟨n,rfl⟩
 |s::A,B,n=>by
  obtain⟨k,hk⟩:=Xgz st m A B (n+jb s.ay);exact⟨k,by rw[List.cons_append,dP,hk,dP,List.append_assoc]⟩
theorem Xih(m:Nat):∀{L:List bR} (n:Nat),(∀s∈L,∀e∈s.ay,jr st e=jr st' e)→dP st m L n=dP st' m L n
 | [],_,_=>rfl
 |s::L,n,h=>by rw[dP,dP,YL m s.num n (h s (by simp)),Xih m _ fun x hx=>h x (by simp[hx])]
theorem Xj3{f g:α→ae}:∀{l:List α},(∀x∈l,f x=g x)→l.flatMap f=l.flatMap g
 | [],_=>rfl
 |x::l,h=>by rw[List.flatMap_cons,List.flatMap_cons,h x (by simp),Xj3 fun y hy=>h y (by simp[hy])]
def Within(c s:ae):Prop:=∃a b,s=a++(c++b)
theorem Within.left(h:Within c s)(x:ae):Within c (x++s):=by
 obtain⟨a,b,rfl⟩:=h;exact⟨x++a,b,by simp⟩
theorem Within.right(h:Within c s)(x:ae):Within c (s++x):=by
 obtain⟨a,b,rfl⟩:=h;exact⟨a,b++x,by simp⟩
theorem YM(st:List ae)(m:Nat)(num:Int):∀(l:List aG) (n:Nat),∀f∈gV st m num l n,f.err=0→Within f.aU (fu (gV st m num l n) l)
 | [],_,f,h,_=>by cases h
 |e::l,n,f,h,h0=>by
  rw[gV]at h ⊢;split at h
  ·rename_i hk;rw[if_pos hk,fu,kU,if_pos hk];exact(YM st m num l n f h h0).left _
  ·rename_i hk;rw[if_neg hk,fu,kU,if_neg hk];rcases List.mem_cons.1 h with rfl|h
   ·refine Within.right ?_ _;unfold nE;rw[if_neg hk];refine Within.left ?_ _;unfold yU;dsimp only;rw[if_neg (by omega)];exact⟨[43]++aY (kV st m num e n).aU.length,[],by simp⟩
   ·exact(YM st m num l _ f h h0).left _
def uG(L:List bR):Prop:=L.Pairwise fun a b=>a.num≠b.num
theorem UH{n:Int}:∀{l:List Rec},(∀f∈l,f.mh≠n)→di l n=[]
 | [],_=>rfl
 |f::l,h=>by
  unfold di;rw[List.filter_cons,if_neg (by have:=h f (by simp);simpa using this)];exact UH fun g hg=>h g (by simp[hg])
theorem Xiy{n:Int}:∀{l:List Rec},(∀f∈l,f.mh=n)→di l n=l
 | [],_=>rfl
 |f::l,h=>by
  unfold di;rw[List.filter_cons,if_pos (by have:=h f (by simp);simpa using this)];congr 1;exact Xiy fun g hg=>h g (by simp[hg])
theorem YN(a b:List Rec)(n:Int):di (a++b) n=di a n++di b n:=List.filter_append ..
theorem Xgy(st:List ae)(m:Nat):∀(L:List bR) (n:Nat),uG L→ ∀(F:List Rec),(∀s∈L,di F s.num=di (dP st m L n) s.num)→ ∀f∈dP st m L n,f.err=0→Within f.aU (L.flatMap (kP F))
 | [],_,_,_,_,f,h,_=>by cases h
 |s::L,n,hu,F,hF,f,h,h0=>by
  obtain⟨u1,u2⟩:=List.pairwise_cons.1 hu;have MU:∀g∈dP st m L (n+jb s.ay),g.mh≠s.num:=fun g hg e=>by
   obtain⟨x,hx,he⟩:=YK st m L _ g hg;exact u1 x hx (by rw[←e,he])
  rw[dP,List.mem_append]at h;rw[List.flatMap_cons];rcases h with h|h
  ·refine Within.right ?_ _;unfold kP;refine Within.left ?_ _;rw[hF s (by simp),dP,YN,UH MU,List.append_nil,Xiy (QT _ _ _ _ _)];exact YM st m s.num s.ay n f h h0
  ·refine Within.left ?_ _;refine Xgy st m L _ u2 F (fun x hx=> ?_) f h h0;rw[hF x (by simp[hx]),dP,YN,UH (l:=gV st m s.num s.ay n) fun g hg e=>u1 x hx (by rw[←e,QT _ _ _ _ _ g hg]),List.nil_append]
theorem Xoz{L:List bR}(hu:uG L)(m:Nat):∀f∈(uF L m).files,f.err=0→Within f.aU (pQ (uF L m)):=
 Xgy _ m L 0 hu _ fun _ _=>rfl
theorem Xsu(h:wX l=0):uG l:=by
 unfold uG;rw[List.pairwise_iff_getElem];intro i j hi hj Mj e;have h1:=X5 h i _ (List.getElem?_eq_getElem hi);have h2:=X5 h j _ (List.getElem?_eq_getElem hj);omega
theorem Xo0(h:wX l=0)(k m:Nat):∃r,pQ (uF l m)=pQ (uF (l.take k) m)++r:=by
 have hu:=Xsu h;have MV:l=l.take k++l.drop k:=(List.take_append_drop k l).symm;obtain⟨c,hc⟩:=Xgz (aK l) m (l.take k) (l.drop k) 0;rw[←MV]at hc;have QU:dP (aK l) m (l.take k) 0=dP (aK (l.take k)) m (l.take k) 0:=by
  apply Xih;intro s hs e he;obtain⟨j,hj⟩:=List.getElem?_of_mem hs;have Fh:j<k∧l[j]?=some s:=by
   rw[List.getElem?_take]at hj;split at hj
   ·exact⟨by assumption,hj⟩
   ·cases hj
  have uO:j<l.length:=(List.getElem?_eq_some_iff.1 Fh.2).1;obtain⟨h1,h2⟩:=YH h j s Fh.2 e he;rw[Nat.zero_add]at h2;have a1:=Xke (l:=l) (m:=j+1) (k:=l.length) (by omega) h1 h2;have a2:=Xke (l:=l) (m:=j+1) (k:=k) (by omega) h1 h2;rw[List.take_length]at a1;rw[a1,a2]
 refine⟨(l.drop k).flatMap (kP (uF l m).files),?_⟩;unfold pQ uF;dsimp only;conv=>lhs;rw[show(List.flatMap (kP (dP (aK l) m l 0)) l)=List.flatMap (kP (dP (aK l) m l 0)) (l.take k++l.drop k) by rw[List.take_append_drop]]
 rw[List.flatMap_append];congr 1;apply Xj3;intro s hs;unfold kP;congr 2;rw[hc,YN,QU];rw[UH (l:=dP (aK l) m (l.drop k) c),List.append_nil];intro f hf e;obtain⟨x,hx,he⟩:=YK _ _ _ _ f hf;have:uG (l.take k++l.drop k):=by rw[List.take_append_drop];exact hu
 exact(List.pairwise_append.1 this).2.2 s hs x hx (by rw[←e,he])
section
variable (name:ae)
def shP(p:ae):ae:=name++47::p
def shE(x:aG):aG:={x with af:=shP name x.af}
def shD(name q:ae):ae:=if q=[]then name else shP name q
end
def rZ(x:aG)(c:ae):aG:=if x.ai=1 then bU x (c.length:Nat) (dM c) (fC 0 c)else x
theorem Xl6(h0:az e=0)(bZ:¬e.ai=1):e.size=0∧e.aj=[]∧e.ak=[]:=by
 unfold az at h0;split at h0
 ·omega
 split at h0
 ·contradiction
 split at h0
 ·omega
 split at h0
 ·contradiction
 split at h0
 ·omega
 split at h0
 ·omega
 rename_i q1;split at h0
 ·omega
 rename_i q2;split at h0
 ·contradiction
 rename_i q3;refine⟨by omega,Classical.byContradiction fun q=>q2 (.inr ⟨bZ,q⟩),?_⟩;have hf:(e.ai==1)=false:=by simpa using bZ
 rw[hf]at q3;cases hx:e.ak with
 |nil=>rfl
 |cons y l=>rw[hx,bK,if_pos rfl]at q3;exact absurd (by decide:(1:Int)≠0) q3
theorem Xi0{x:aG}(h:az x=0)(hk:x.ai=1)(h1:((c.length:Nat):Int)=x.size)(h2:dM c=x.aj):az (bU x (c.length:Nat) (dM c) (fC 0 c))=0:=by
 have eU:=(Ur h hk).2;have e1:bK (x.ai==1) (fC 0 c)=0:=by
  unfold fC;rw[hk];split
  ·rfl
  ·rename_i hc;have:0<c.length:=List.length_pos_iff.2 hc;have hb:bX ⟨0,0,(c.length:Nat)⟩=false:=by
    unfold bX;dsimp only;rw[Qf (show ¬((c.length:Int)<1) by omega),Qf (show ¬(65536<(c.length:Int)) by omega)];rfl
   rw[bK,if_neg (by simp),hb];rfl
 have e2:fH (fC 0 c)=(c.length:Nat):=by
  unfold fC;split
  ·rename_i hc;rw[hc];rfl
  ·simp[fH]
 unfold az bU at*;dsimp only at*;rw[h1,h2,e1,e2,h1];split at h
 ·omega
 rename_i q1;rw[if_neg q1];split at h
 ·contradiction
 rename_i q2;rw[if_neg q2];split at h
 ·omega
 rename_i q3;rw[if_neg q3];split at h
 ·contradiction
 rename_i q4;rw[if_neg q4];split at h
 ·omega
 rename_i q5;rw[if_neg (by exact q5)];split at h
 ·omega
 rename_i q6;rw[if_neg q6];split at h
 ·omega
 rename_i q7;rw[if_neg q7];simp
theorem Xre{x:aG}(h:az x=0)(hk:x.ai=1∨x.ai=2∨x.ai=3)(hc:(cZ st x).2=0):
 gU (dD x) (cZ st x).1=(rZ x (cZ st x).1,true):=by
 have hx:=Bn h;have hh:=Xsj hx.k1 hx.k6 (by have:=hx.DN;omega);have CR:=UG st x;unfold gU;rw[Ob,Oc 0 (.inl rfl) _ _ (by omega),hh];simp only[aR,kz];have ee:∀a b c,bU (bU x 0 [] []) a b c=bU x a b c:=fun _ _ _=>rfl;rw[ee,ee];by_cases h1:x.ai=1
 ·have hcc:=hc;unfold cZ at hcc;rw[if_pos h1]at hcc;have CU:(cZ st x).1=(jr st x).1:=by unfold cZ;rw[if_pos h1]
  obtain⟨_,a1,a2⟩:=Xud hcc;rw[←CU]at a1 a2;have bZ:az (bU x 0 [] [])≠0:=fun h0=>by
   have:=(Ur h0 h1).1;simp[bU]at this
  rw[if_pos bZ];dsimp only;rw[if_neg (by omega),Xi0 h h1 a1 a2];simp only[ne_eq,not_true_eq_false,if_false];unfold rZ;rw[if_pos h1];have:((bU x ((cZ st x).1.length:Nat) (dM (cZ st x).1) (fC 0 (cZ st x).1)).ai==1)=true:=by simp[bU,h1]
  rw[this]
 ·obtain⟨z1,z2,z3⟩:=Xl6 h h1;have hz:bU x 0 [] []=x:=by unfold bU;rw[←z1,←z2,←z3]
  have Vj:(cZ st x).1=[]:=by unfold cZ;rw[if_neg h1]
  rw[hz,h,Vj];simp only[ne_eq,not_true_eq_false,if_false];unfold rZ;rw[if_neg h1];have:(x.ai==2 || x.ai==3)=true:=by
   rcases hk with k|k|k
   ·exact absurd k h1
   ·rw[k];rfl
   ·rw[k];rfl
  rw[this];rfl
theorem Xwn{x:aG}(h:az x=0)(hc:(cZ st x).2=0):Lh x (rZ x (cZ st x).1):=by
 unfold rZ;split
 ·rename_i h1;have hcc:=hc;unfold cZ at hcc;rw[if_pos h1]at hcc;have CU:(cZ st x).1=(jr st x).1:=by unfold cZ;rw[if_pos h1]
  obtain⟨_,a1,a2⟩:=Xud hcc;rw[←CU]at a1 a2;exact⟨rfl,rfl,rfl,rfl,h,Xi0 h h1 a1 a2⟩
 ·exact⟨rfl,rfl,rfl,rfl,h,h⟩
def Iu(st:List ae)(t:List aG):List tF:=t.map fun x=>vY x (cZ st x).1
def yV(st:List ae)(t:List aG):List aG:=t.map fun x=>rZ x (cZ st x).1
theorem Xlm:∀{t:List aG},(∀x∈t,az x=0∧(cZ st x).2=0)→Cr t (yV st t)
 | [],_=>trivial
 |x::t,h=>⟨Xwn (h x (by simp)).1 (h x (by simp)).2,Xlm fun y hy=>h y (by simp[hy])⟩
theorem Xml(s:ae):∀(t:List aG) (p:ae) (A:List aG) (O:List tF),(∀x∈t,az x=0∧(x.ai=1∨x.ai=2∨x.ai=3)∧(cZ st x).2=0)→s=p++t.flatMap (piece st)→
 xy gU s t.length p.length A O= .ok (A++yV st t,O++Iu st t,s.length)
 | [],p,A,O,_,hs=>by
   rw[List.length_nil,xy,hs];simp[yV,Iu]
 |x::t,p,A,O,h,hs=>by
  obtain⟨h1,h2,h3⟩:=h x (by simp);rw[List.flatMap_cons]at hs;unfold piece at hs;have e1:rdStr s p.length= .ok (dD x,p.length+(aS (dD x)).length):=Gf (x:=p) (y:=dD x) (by rw[hs];simp[List.append_assoc];rfl) rfl;have e2:rdStr s (p.length+(aS (dD x)).length)= .ok ((cZ st x).1,(p++aS (dD x)++aS (cZ st x).1).length):=by
   rw[Gf (x:=p++aS (dD x)) (y:=(cZ st x).1) (r:=t.flatMap (piece st)) (by rw[hs];simp[List.append_assoc];rfl) (by simp)];simp[Nat.add_assoc]
  have hb:=Xre h1 h2 h3;rw[List.length_cons,xy,e1,aR,e2,aR];dsimp only;rw[hb];simp only[Bool.true_eq_false,if_false];rw[Xml s t _ _ _ (fun y hy=>h y (by simp[hy])) (by rw[hs];simp[List.append_assoc];rfl)];have hcg:vY (rZ x (cZ st x).1) (cZ st x).1=vY x (cZ st x).1:=by unfold rZ;split<;>rfl
  rw[hcg];simp[yV,Iu]
theorem Xvs(ht:FM t)(hl:t.length≤5000)(h:(Ir st t).2=0):Ac gU (Ir st t).1= .ok (Iu st t):=by
 obtain⟨a1,a2⟩:=Xww _ _ _ h;have hn:rdNum (Ir st t).1 0= .ok ((t.length:Int),(aY t.length).length):=by
  unfold Ir;rw[a2,Oa (x:=[]) (a:=0) (n:=t.length) (by omega) (by omega) (by rw[List.nil_append]) rfl];simp
 have hg:=Xml (st:=st) (Ir st t).1 t (aY t.length) [] [] (fun x hx=>⟨ht.dm x hx,ht.ai x hx,a1 x hx⟩) (by unfold Ir;exact a2);unfold Ac;rw[hn,aR];unfold Ik;dsimp only;rw[if_neg (by omega),Int.toNat_natCast,hg,aR];unfold Cs;dsimp only;rw[if_neg (by simp)];have hs:=Xlm (st:=st) (t:=t) fun x hx=>⟨ht.dm x hx,a1 x hx⟩;have hc:kK ([]++yV st t)=0:=by
  rw[List.nil_append];have:=Xry hs hs none none rfl;have h0:=(Xuf t).2 ht;unfold kK at*;omega
 rw[if_neg (by omega),List.nil_append]
def YO(c:tF)(xs:List Xt):aG:=if c.ai=1 then⟨c.ai,c.af,c.ag,c.target,(c.aU.length:Nat),dM c.aU,xs⟩else⟨c.ai,c.af,c.ag,c.target,0,[],[]⟩
abbrev QV(c:tF)(va:Value):List Value:=[.int .i64 c.ai,S c.af,va,S c.target,S c.aU]
abbrev QW(c:tF)(va:Value):Value:= .agg #[.int .i64 c.ai,S c.af,va,S c.target,S c.aU]
def yX:Ty tF where
 size:=5
 rd:=fun I cs c=> ∃va,cs=QV c va∧bf lT I va c.ag
 len:=fun⟨_,h,_⟩=>by rw[h];rfl
 one:=fun⟨va,h,h1⟩ u hu=>by
  rw[h]at hu;simp at hu;rcases hu with rfl|rfl|rfl|rfl|rfl<;>first|rfl|exact h1.one
 mono:=fun hI ⟨va,h,h1⟩=>⟨va,h,h1.mono hI⟩
structure QX (w:World) (b o:Nat) (c:tF) (va:Value):Prop where
 c0:w.cell? ⟨b,o,none⟩=some (.int .i64 c.ai)
 c1:w.cell? ⟨b,o+1,none⟩=some (S c.af)
 c2:w.cell? ⟨b,o+2,none⟩=some va
 c3:w.cell? ⟨b,o+3,none⟩=some (S c.target)
 c4:w.cell? ⟨b,o+4,none⟩=some (S c.aU)
theorem Xzl{l:List tF}(h:bf yX I v l)(hw:Ok I w)(i:Nat)(hi:i<l.length):∃x va b off cap,l[i]=x∧v= .slice (some ⟨b,off,none⟩) l.length cap∧
 QX w b (off+i*5) x va∧bf lT I va x.ag:=by
 obtain⟨b,off,cap,cs,hv,⟨va,iU,h1⟩,hc⟩:=h.at_ hw hi;subst iU;exact⟨_,va,b,off,cap,rfl,hv,⟨hc 0 _ rfl,hc 1 _ rfl,hc 2 _ rfl,hc 3 _ rfl,hc 4 _ rfl⟩,h1⟩
structure amo (w:World) (n:Nat) (c:tF) (va:Value):Prop where
 c0:w.cell? ⟨n,0,none⟩=some (.int .i64 c.ai)
 c1:w.cell? ⟨n,1,none⟩=some (S c.af)
 c2:w.cell? ⟨n,2,none⟩=some va
 c3:w.cell? ⟨n,3,none⟩=some (S c.target)
 c4:w.cell? ⟨n,4,none⟩=some (S c.aU)
abbrev uH(r:Rec)(va vx:Value):List Value:=[.int .i64 r.mh,.int .i64 r.dm.ai,S r.dm.af,va,S r.dm.target,.int .i64 r.dm.size,S r.dm.aj,vx,S r.aU,.int .i64 r.err]
abbrev Iw(r:Rec)(va vx:Value):Value:= .agg #[.int .i64 r.mh,.int .i64 r.dm.ai,S r.dm.af,va,S r.dm.target,.int .i64 r.dm.size,S r.dm.aj,vx,S r.aU,.int .i64 r.err]
def nY:Ty Rec where
 size:=10
 rd:=fun I cs r=> ∃va vx,cs=uH r va vx∧bf lT I va r.dm.ag∧bf mr I vx r.dm.ak
 len:=fun⟨_,_,h,_⟩=>by rw[h];rfl
 one:=fun⟨va,vx,h,h1,h2⟩ u hu=>by
  rw[h]at hu;simp at hu;rcases hu with rfl|rfl|rfl|rfl|rfl|rfl|rfl|rfl|rfl|rfl<;>first|rfl|exact h1.one|exact h2.one
 mono:=fun hI ⟨va,vx,h,h1,h2⟩=>⟨va,vx,h,h1.mono hI,h2.mono hI⟩
structure Bw (w:World) (b o:Nat) (r:Rec) (va vx:Value):Prop where
 c0:w.cell? ⟨b,o,none⟩=some (.int .i64 r.mh)
 c1:w.cell? ⟨b,o+1,none⟩=some (.int .i64 r.dm.ai)
 c2:w.cell? ⟨b,o+2,none⟩=some (S r.dm.af)
 c3:w.cell? ⟨b,o+3,none⟩=some va
 c4:w.cell? ⟨b,o+4,none⟩=some (S r.dm.target)
 c5:w.cell? ⟨b,o+5,none⟩=some (.int .i64 r.dm.size)
 c6:w.cell? ⟨b,o+6,none⟩=some (S r.dm.aj)
 c7:w.cell? ⟨b,o+7,none⟩=some vx
 c8:w.cell? ⟨b,o+8,none⟩=some (S r.aU)
 c9:w.cell? ⟨b,o+9,none⟩=some (.int .i64 r.err)
theorem Bw.past{b o:Nat}{r:Rec}(h:Bw w b o r va vx)(x:Obj):Bw (w.alloc x) b o r va vx:=
 ⟨fP x h.c0,fP x h.c1,fP x h.c2,fP x h.c3,fP x h.c4,fP x h.c5,fP x h.c6,fP x h.c7,fP x h.c8,fP x h.c9⟩
theorem recAt{l:List Rec}(h:bf nY I v l)(hw:Ok I w)(i:Nat)(hi:i<l.length):∃x va vx b off cap,l[i]=x∧v= .slice (some ⟨b,off,none⟩) l.length cap∧
 Bw w b (off+i*10) x va vx∧bf lT I va x.dm.ag∧bf mr I vx x.dm.ak:=by
 obtain⟨b,off,cap,cs,hv,⟨va,vx,iU,h1,h2⟩,hc⟩:=h.at_ hw hi;subst iU;exact⟨_,va,vx,b,off,cap,rfl,hv,⟨hc 0 _ rfl,hc 1 _ rfl,hc 2 _ rfl,hc 3 _ rfl,hc 4 _ rfl,hc 5 _ rfl,hc 6 _ rfl,hc 7 _ rfl,hc 8 _ rfl,hc 9 _ rfl⟩,h1,h2⟩
structure amq (w:World) (n:Nat) (r:Rec) (va vx:Value):Prop where
 c0:w.cell? ⟨n,0,none⟩=some (.int .i64 r.mh)
 c1:w.cell? ⟨n,1,none⟩=some (.int .i64 r.dm.ai)
 c2:w.cell? ⟨n,2,none⟩=some (S r.dm.af)
 c3:w.cell? ⟨n,3,none⟩=some va
 c4:w.cell? ⟨n,4,none⟩=some (S r.dm.target)
 c5:w.cell? ⟨n,5,none⟩=some (.int .i64 r.dm.size)
 c6:w.cell? ⟨n,6,none⟩=some (S r.dm.aj)
 c7:w.cell? ⟨n,7,none⟩=some vx
 c8:w.cell? ⟨n,8,none⟩=some (S r.aU)
 c9:w.cell? ⟨n,9,none⟩=some (.int .i64 r.err)
abbrev EI(vs vf:Value):Value:= .agg #[vs,vf]
theorem Xd2{P:Program}{ts te:TypeId}{bytes:Nat}(hE:eZ P ts te T bytes){w0:World}{ops:Array Oper}{rest:List Oper}{o:Oper}{a:Act}{Q:Exit→Act→World→Prop}(CK:o.guard=none)(s x:Operand)
 (ho:o.op= .call {callee:= .builtin .append,args:=#[s,x],argTypes:=#[ts,ts]}) (B:Nat) (v:Value) (l:List α) (hs:a.eval s=v) (bE:aP T te I w0 B v l)
 (y:α) (cs:List Value) (tb:TypeId) (hx:a.eval x= .slice (some ⟨w0.heap.size,0,none⟩) 1 1) (hy:T.rd I cs y) (jd:(l.length+1)*bytes≤140737488355328) (hl:l.length+1≤9223372036854775807) (hB:B≤w0.heap.size)
 (h:∀v' w',aP T te I w' B v' (l++[y])→w0.grownBy w' v.ownBlock→(∀g,v'.ownBlock=some g→v.ownBlock=some g∨w0.heap.size≤g)→wpList P ops Q rest (a.put o.dst v') w'):wpList P ops Q (o::rest) a (w0.alloc (.cells cs.toArray tb)):=by
 obtain⟨i,z,h1,h2,h3,h4,h5,h6,h7⟩:=hE;obtain⟨xs,k1,k2⟩:=bE
 refine wpList_append_own_at (w0.alloc (.cells cs.toArray tb)) CK s x ts ho B te i z T.size bytes h1 h2 h3 h4 h5 h6 h7 v l.length xs hs (k1.alloc _) ⟨w0.heap.size,0,none⟩ 1 1 cs hx (by rw[T.len hy,Nat.one_mul])
  (fun j u hu=>by rw[Addr.add_lit,Nat.zero_add,World.cell?_alloc_new];simpa using hu) (T.one hy) (by unfold maxLen;omega) jd (by simp;omega) (fun v' w' r1 r2 _ r4=>h v' w' ⟨xs++cs,by rw[List.length_append];exact r1,k2.append (bS.one hy)⟩ ?_ ?_)
 ·exact⟨r2.os,r2.tape,r2.output,by have:=r2.size;simp at this;omega,fun k hk bZ=>(r2.block k (by simp;omega) bZ).trans (Below.heap_alloc _ _ _ hk)⟩
 ·intro g hg;rcases r4 with r4|r4
  ·exact .inl (r4▸hg)
  ·rw[r4]at hg;simp at hg;exact .inr (by omega)
def XB(n:Int)(x:Xt):Prop:=0≤x.s∧x.s≤255∧0≤x.o∧x.o≤1099511627776∧0≤x.n∧x.n≤n
section
variable {I:IH} {W:World} {B:Nat} {v:Value} {l:List Xt}
end
abbrev xtW(x:Xt):Value:= .agg #[.int .i64 x.s,.int .i64 x.o,.int .i64 x.n]
abbrev xtL(x:Xt):List Value:=[.int .i64 x.s,.int .i64 x.o,.int .i64 x.n]
def amr(I:IH)(B:Nat)(w:World)(v:Value)(l:List Xt)(e:Ending)(w':World):Prop:=
 ∃v',e= .returned v'∧aP mr 110 I w' B v' l∧w.grownBy w' v.ownBlock∧ ∀g,v'.ownBlock=some g→v.ownBlock=some g∨w.heap.size≤g
theorem Xwb(I:IH)(v:Value)(t:List aG)(hv:bf bG I v t)(hI:dQ I)(ht:Pn t)(hs:vE t)(w:World)(hw:Ok I w):
 Calls Tryz.prog 56 #[v] w fun e w'=>e= .returned (.int .i64 (kK t))∧Below w.heap.size w w':=by
 have hlen:=hv.bW;obtain⟨ao,cap,rfl,dO,iR,_⟩:=id hv;have Hv:=Qh hv;clear hv;have Ht:=Qh ht;clear ht;have Hs:=Qh hs;clear hs;have QY:=Qh (fun p w hw=>Xg9 I _ t Hv.O p w hw);go_enter Tryz.func56,Tryz.ntmps56
 go_wp2_with fail
 go_loopw [11] (fun s11 wr=> ∃k:Nat,k≤t.length∧s11= .int .i64 k∧fe t (if k=0 then none else t[k-1]?) (t.drop k)=kK t∧(∀y∈t.take k,aJ y.af=0)∧Below w.heap.size w wr) (fun i _=>t.length-(intOf i).toNat)
 case atStart=>exact⟨0,Nat.zero_le _,rfl,rfl,by simp,Qb _ _⟩
 case round=>
  obtain⟨k,hk,rfl,hr,gG,hb⟩:=hrel;have Hr:=Qh hr;have lX:=Qh gG;clear hr gG;have dA:Ok I wr:=hw.below (Qn _) hb;by_cases hlt:k<t.length;case neg=>
   have Hn:=Qh (show kK t=0 by rw[←Hr.O,List.drop_of_length_le (by omega)];rfl);go_wp2;go_ret;exact⟨bP Hn.O.symm,hb⟩
  obtain⟨x,va,vx,b,off,cap',bH,dn,⟨c0,c1,c2,c3,c4,c5,c6⟩,h1,h2⟩:=qi Hv.O dA k hlt;cases dn;have bB:=Qh (show kK t=if az x≠0 then az x else if x.ai≠1∧x.ai≠2∧x.ai≠3 then 10 else if((if k=0 then none else t[k-1]?).any fun y=> !(ji (els y.af) (els x.af)))then 14 else if bA t (kE x.af)≠0 then bA t (kE x.af)else fe t (some x) (t.drop (k+1)) by
   rw[←Hr.O,List.drop_eq_getElem_cons hlt,bH,Xlb])
  have Jn:=Qh (show t[k]?=some x by rw[List.getElem?_eq_getElem hlt,bH]);have sF:=Qh bH;have Pt:=Qh (Ht.O x (by rw[←bH];exact List.getElem_mem hlt));have Vq:=Qh (Hs.O x (by rw[←bH];exact List.getElem_mem hlt));have kg:=Qh (fun w hw=>Uf I hI x va vx h1 h2 Pt.O Vq.O.1 Vq.O.2 w hw);obtain⟨aa,ca,rfl,_,_,_⟩:=id h1;obtain⟨ax,cx,rfl,_,_,_⟩:=id h2;clear bH h1 h2;go_wp2_with fail
  refine(kg.O _ (dA.alloc _)).mono ?_;rintro e w1 ⟨rfl,au⟩;obtain⟨d0,d1,d2,d3,d4,d5,d6⟩:=cB rfl au;have av:=(hb.alloc hb.size _).trans (au.mono (by have:=hb.size;simp;omega));have aD:Ok I w1:=(dA.alloc _).below (Qn _) au;clear au c0 c1 c2 c3 c4 c5 c6;by_cases h0:az x=0;case neg=>
   obtain⟨q,hq⟩:∃q,az x=q:=⟨_,rfl⟩;have hn:(q !=0)=true:=by rw[←hq];simpa using h0
   have Hn:=Qh (show kK t=q by rw[bB.O,if_pos h0,hq]);rw[hq];clear hq h0;go_wp2;go_ret;exact⟨bP Hn.O.symm,av⟩
  replace bB:=Qh (show kK t=_ by rw[bB.O,if_neg (show ¬az x≠0 by omega)]);have QZ:=Qh (Xow h0);have nL:x.af.length≤200:=(BL QZ.O.1).1;rw[h0];clear h0;by_cases MO:x.ai≠1∧x.ai≠2∧x.ai≠3;case pos=>
   have Hn:=Qh (show kK t=10 by rw[bB.O,if_pos MO]);have vw:=Qh (Xh x.ai);have kD:inT x.ai=false:=by
    cases h:inT x.ai with
    |false=>rfl
    |true=>have:=mg.1 h;omega
   rw[kD]at vw;clear MO kD;go_wp2_with fail
   refine(vw.O _).mono ?_;rintro e w2 ⟨rfl,rfl⟩;go_wp2;go_ret;exact⟨bP Hn.O.symm,av⟩
  replace bB:=Qh (show kK t=_ by rw[bB.O,if_neg MO]);have vV:=Qh (show x.ai=1∨x.ai=2∨x.ai=3 by omega);have ze:x.af≠[]:=by
   rcases QZ.O.2 with h|h
   ·exact h
   ·have:=vV.O;omega
  have mV:=Qh (fun w hw=>Xl2 I hI x.af (by omega) w hw);have JI:=Qh (Wm QZ.O.1 ze);have lZ:=Qh (fun w hw=>QY.O (kE x.af) w hw);clear MO ze;have vw:=Qh (Xh x.ai);rw[mg.2 vV.O]at vw;go_wp2_with fail
  refine(vw.O _).mono ?_;rintro e w2 ⟨rfl,rfl⟩;by_cases rM:k=0
  ·have hd:decide (0<k)=false:=Qf (by omega);have mo:k<1:=by omega
   replace bB:=Qh (show kK t=if bA t (kE x.af)≠0 then bA t (kE x.af)else fe t (some x) (t.drop (k+1)) by rw[bB.O,if_pos rM];rfl);clear rM;have g0:=cell_regrown d0;have g1:=cell_regrown d1;go_wp2_with fail
   refine wp_region_quiet_below (by kernel_rfl) (by kernel_rfl) ?_;repeat(go_big_quiet_step ((fail)))
   refine wpQuiet_nil ?_;intro w4 bg;have aM:Below (w1).heap.size (w1) w4:=by
    obtain⟨pq,rfl⟩:=bg;exact below_regrown _ _ _
   clear bg;have aO:=av.trans (aM.mono av.size);have bC:Ok I w4:=aD.below (Qn _) aM;have d1:=dh aM d1;clear aM g0 g1;go_wp2_with fail
   refine(mV.O _ bC).mono ?_;rw[JI.O];rintro e w5 ⟨rfl,bq⟩;have bT:=aO.trans (bq.mono aO.size);have df:Ok I w5:=Ok.below bC (Qn _) bq;go_wp2_with fail
   refine(lZ.O _ df).mono ?_;rintro e w6 ⟨rfl,gp⟩;have jM:=bT.trans (gp.mono bT.size);by_cases sZ:bA t (kE x.af)=0
   ·have Hn:=Qh (show fe t (if k+1=0 then none else t[k+1-1]?) (t.drop (k+1))=kK t by
     rw[bB.O,if_neg (show ¬bA t (kE x.af)≠0 by omega),Nat.add_sub_cancel,Jn.O];simp)
    rw[sZ];clear sZ;go_wp2;go_roundw;case rel=>exact⟨k+1,by omega,by go_num,Hn.O,Xps lX.O hlt sF.O QZ.O.1,jM⟩
    case measure=>simp[intOf];omega
   ·obtain⟨q,hq⟩:∃q,bA t (kE x.af)=q:=⟨_,rfl⟩;have hn:(q !=0)=true:=by rw[←hq];simpa using sZ
    have Hn:=Qh (show kK t=q by rw[bB.O,if_pos sZ,hq]);rw[hq];clear hq sZ;go_wp2;go_ret;exact⟨bP Hn.O.symm,jM⟩
  ·obtain⟨y,vb,vy,b',off',yj,iH,dn,⟨_,e1,_,_,_,_,_⟩,_,_⟩:=qi Hv.O aD (k-1) (by omega);cases dn;have hd:decide (0<k)=true:=Qt (by omega);have fJ:0<k:=by omega
   have hi:IntKind.i64.wrap ((k:Int)-1)=(k:Int)-1:=IntWalk.i64_in _ (by omega);have hj:0≤(k:Int)-1:=by omega
   have hm:((k:Int)-1).toNat=k-1:=by omega
   have Vk:y.af.length≤200:=(BL (lX.O y (by
    rw[←iH];have:(t.take k)[k-1]'(by simp;omega)=t[k-1]:=List.getElem_take;rw[←this];exact List.getElem_mem _))).1
   replace bB:=Qh (show kK t=if !(ji (els y.af) (els x.af))then 14 else if bA t (kE x.af)≠0 then bA t (kE x.af)else fe t (some x) (t.drop (k+1)) by
    rw[bB.O,if_neg rM,List.getElem?_eq_getElem (by omega),iH];rfl)
   have wW:=Qh (fun w hw=>Ws I hI y.af x.af (by omega) (by omega) w hw);clear iH rM;have g1:=cell_regrown d1;have f1:=cell_regrown e1;cases hl:ji (els y.af) (els x.af)
   ·have Hn:=Qh (show kK t=14 by rw[bB.O,hl];rfl);have hc:=Xqh hl;rcases hc with hc|hc
    all_goals
     rw[hc]at wW;clear hc;go_wp2_with fail
     refine wp_region_quiet_below (by kernel_rfl) (by kernel_rfl) ?_;repeat(go_big_quiet_step ((with_reducible exact Calls.regrown_of (wW.O _ (aD.below (Qn _) (below_regrown _ _ _))))))
     refine wpQuiet_nil ?_;intro w4 bg;have aM:Below (w1).heap.size (w1) w4:=by
      obtain⟨pq,rfl⟩:=bg;exact below_regrown _ _ _
     clear bg;go_wp2;go_ret;exact⟨bP Hn.O.symm,av.trans (aM.mono av.size)⟩
   ·replace bB:=Qh (show kK t=if bA t (kE x.af)≠0 then bA t (kE x.af)else fe t (some x) (t.drop (k+1)) by rw[bB.O,hl];rfl);rw[Xqg hl]at wW;clear hl;go_wp2_with fail
    refine wp_region_quiet_below (by kernel_rfl) (by kernel_rfl) ?_;repeat(go_big_quiet_step ((with_reducible exact Calls.regrown_of (wW.O _ (aD.below (Qn _) (below_regrown _ _ _))))))
    refine wpQuiet_nil ?_;intro w4 bg;have aM:Below (w1).heap.size (w1) w4:=by
     obtain⟨pq,rfl⟩:=bg;exact below_regrown _ _ _
    clear bg;have aO:=av.trans (aM.mono av.size);have bC:Ok I w4:=aD.below (Qn _) aM;have d1:=dh aM d1;clear aM g1 f1;go_wp2_with fail
    refine(mV.O _ bC).mono ?_;rw[JI.O];rintro e w5 ⟨rfl,bq⟩;have bT:=aO.trans (bq.mono aO.size);have df:Ok I w5:=Ok.below bC (Qn _) bq;go_wp2_with fail
    refine(lZ.O _ df).mono ?_;rintro e w6 ⟨rfl,gp⟩;have jM:=bT.trans (gp.mono bT.size);by_cases sZ:bA t (kE x.af)=0
    ·have Hn:=Qh (show fe t (if k+1=0 then none else t[k+1-1]?) (t.drop (k+1))=kK t by
      rw[bB.O,if_neg (show ¬bA t (kE x.af)≠0 by omega),Nat.add_sub_cancel,Jn.O];simp)
     rw[sZ];clear sZ;go_wp2;go_roundw;case rel=>exact⟨k+1,by omega,by go_num,Hn.O,Xps lX.O hlt sF.O QZ.O.1,jM⟩
     case measure=>simp[intOf];omega
    ·obtain⟨q,hq⟩:∃q,bA t (kE x.af)=q:=⟨_,rfl⟩;have hn:(q !=0)=true:=by rw[←hq];simpa using sZ
     have Hn:=Qh (show kK t=q by rw[bB.O,if_pos sZ,hq]);rw[hq];clear hq sZ;go_wp2;go_ret;exact⟨bP Hn.O.symm,jM⟩
structure vJ {α:Type} (T:Ty α) (E:TypeId) (B:Nat) (J:IH) (W:World) (v:Value) (l:List α):Prop where
 own:aP T E J W B v l
 apart:∀g,v.ownBlock=some g→J g=none
section
variable {α:Type} {T:Ty α} {E:TypeId} {B:Nat} {J J':IH} {W W':World} {v v':Value} {l l':List α}
theorem EJ(h:aP T E J W B v l)(hg:v.ownBlock=some g):B≤g∧g<W.heap.size:=by
 obtain⟨xs,h1,_⟩:=h;exact h1.lt g hg
theorem vJ.below(h:vJ T E B J W v l)(hb:Below W.heap.size W W'):vJ T E B J W' v l:=⟨h.own.below hb,h.apart⟩
theorem vJ.ext(h:vJ T E B J W v l)(hb:Below W.heap.size W W')(hw:Ok J W)(hx:Ext W.heap.size J J'):vJ T E B J' W' v l:=
 ⟨(h.own.below hb).mono (hx.keep hw (Qn _)),fun g hg=>(hx g (EJ h.own hg).2).trans (h.apart g hg)⟩
theorem vJ.kept{row:Option Nat}(h:vJ T E B J W v l)(hg:W.grownBy W' row)(bZ:∀g,row=some g→v.ownBlock≠some g):vJ T E B J W' v l:=
 ⟨h.own.kept hg (by
   cases hv:v.ownBlock with
   |none=>exact .inl rfl
   |some k=>exact .inr (fun e=>bZ k e.symm hv)),h.apart⟩
theorem vJ.low(h:vJ T E B J W v l)(hg:W.grownBy W' (some g))(hlt:g<B):vJ T E B J W' v l:=h.kept hg fun k q=>by injection q with q;subst q;exact h.own.dx hlt
theorem vJ.added(h:vJ T E B J W v l)(gG:Ok J W)(ho:aP T E J W' B v' l')(hl:∀g,v'.ownBlock=some g→v.ownBlock=some g∨W.heap.size≤g):vJ T E B J W' v' l':=by
 refine⟨ho,fun g hk=> ?_⟩;rcases hl g hk with h1|h1
 ·exact h.apart g h1
 ·exact gG.fresh h1
end
def Sep(v u:Value):Prop:=∀g,v.ownBlock=some g→u.ownBlock≠some g
theorem Sep.new{β:Type}{U:Ty β}{F:TypeId}{C:Nat}{J:IH}{v':Value}{m:List β}(h:Sep v u)(hu:aP U F J W C u m)(hl:∀g,v'.ownBlock=some g→v.ownBlock=some g∨W.heap.size≤g):Sep v' u:=by
 intro g hg;rcases hl g hg with h1|h1
 ·exact h g h1
 ·exact hu.mP h1
theorem Sep.symm(h:Sep v u):Sep u v:=fun g hg e=>h g e hg
theorem aP.xC{E:TypeId}{B:Nat}{l:List α}(h:aP T E I w B v l)(hw:Ok I w)(hI:∀g,v.ownBlock=some g→I g=none):∃I',(∀b c,I b=some c→I' b=some c)∧Ext B I I'∧Ok I' w∧bf T I' v l∧ ∀b,v.ownBlock≠some b→I' b=I b:=by
 obtain⟨xs,⟨h1,Gp⟩,h2⟩:=h;rcases Gp with⟨rfl,h0⟩|⟨g,cap,cur,rfl,hb,hg,IR,iR,iU,ht⟩
 ·refine⟨I,fun _ _ h=>h,Ext.refl _ _,hw,?_,fun _ _=>rfl⟩;have:l=[]:=List.eq_nil_of_length_eq_zero h0;subst this;exact bf.nil T I
 ·have uM:∀b c,I b=some c→(I.add g cur) b=some c:=fun b c hc=>by
   unfold IH.add;by_cases e:b=g
   ·subst e;rw[hI _ rfl]at hc;cases hc
   ·rw[if_neg e];exact hc
  refine⟨I.add g cur,uM,Ext.add hb I cur,hw.add hg,⟨_,cap,rfl,IR,iR,fun _=>⟨g,0,cur,rfl,by simp[IH.add],fun i hi=> ?_⟩⟩,fun b Vf=> ?_⟩
  ·obtain⟨cs,k1,k2⟩:=h2.2 i hi;refine⟨cs,T.mono uM k1,fun j u hu=> ?_⟩;have hx:=k2 j u hu;rw[←ht,List.getElem?_take]at hx;split at hx
   ·rw[Nat.zero_add,←Array.getElem?_toList];exact hx
   ·cases hx
  ·have:b≠g:=fun e=>Vf (by simp[Value.ownBlock,e]);simp[IH.add,this]
structure Gg (W:World) (bs ba be:Nat) (s:ae) (a:Nat) (z:Int):Prop where
 s0:W.heap[bs]?=some (.cells #[S s] 9 (0,0))
 a0:W.heap[ba]?=some (.cells #[.int .i64 (a:Int)] 3 (0,0))
 e0:W.heap[be]?=some (.cells #[.int .i64 z] 36 (0,0))
theorem Gg.aA{bs:Nat}(h:Gg W bs ba be s a z)(hb:Below W.heap.size W W'):Gg W' bs ba be s a z:=⟨jg h.s0 hb,jg h.a0 hb,jg h.e0 hb⟩
theorem Gg.own{bs:Nat}{row:Option Nat}(h:Gg W bs ba be s a z)(hg:W.grownBy W' row)(bZ:∀g,row=some g→g≠bs∧g≠ba∧g≠be):Gg W' bs ba be s a z:=
 ⟨iL h.s0 hg (fun q=>(bZ _ q).1 rfl),iL h.a0 hg (fun q=>(bZ _ q).2.1 rfl),iL h.e0 hg (fun q=>(bZ _ q).2.2 rfl)⟩
def Two(W W':World)(a b:Nat):Prop:=∃wb,W.grownBy wb (some a)∧wb.grownBy W' (some b)
theorem YQ(I:IH)(hI:dQ I)(s:ae)(hs:s.length≤4294967280)(bs ba be a:Nat)(z:Int)(w:World)(hw:Ok I w)(hB:Gg w bs ba be s a z)(ha:a≤4294967280)(hd:bs≠ba∧bs≠be∧ba≠be):
 Calls Tryz.prog 53 #[.pointer (some ⟨be,0,none⟩),.pointer (some ⟨bs,0,none⟩),.pointer (some ⟨ba,0,none⟩)] w fun e w'=>e= .returned (S (ni [] (rdStr s a) a z).1)∧Gg w' bs ba be s (ni [] (rdStr s a) a z).2.1 (ni [] (rdStr s a) a z).2.2∧Two w w' ba be:=by
 have Hr:=Qh (fun w hw=>WX I hI s hs a (by omega) w hw);have HB:=Qh hB;have c0:=cell0 hB.s0;have c1:=cell0 hB.a0;have c2:=cell0 hB.e0;have zf:(Tryz.prog.info? 36).map (·.size)=some 1:=by kernel_rfl
 obtain⟨ll,pg,Fp⟩:=hd;by_cases hz:z=0
 ·subst hz;have k1:((0:Int) !=0)=false:=rfl;obtain⟨x,b,y,xI⟩:∃x b y,ni [] (rdStr s a) a 0=(x,b,y):=⟨_,_,_,rfl⟩;have OJ:sV (rdStr s a)= .tuple #[S x,.int .i64 (b:Int),.int .i64 y]:=by
   cases h1:rdStr s a with
   |ok p=>
    obtain⟨x',n'⟩:=p;rw[h1,Um]at xI;injection xI with e1 e2
    injection e2 with e2 e3
    subst e1 e2 e3;exact T9 _ _
   |error c=>
    rw[h1,Aa]at xI;injection xI with e1 e2
    injection e2 with e2 e3
    subst e1 e2 e3;exact Ua _
  rw[xI];rw[OJ]at Hr;clear OJ xI hB;go_enter Tryz.func53,Tryz.ntmps53
  go_wp2_with fail
  refine(Hr.O _ hw).mono ?_;rintro e w1 ⟨rfl,au⟩;have iq:=Qh (HB.O.aA au);clear c0 c1 c2
  go_wp2_with (first
               |(refine nO rfl rfl 3 _ _ rfl ba 0 [.int .i64 (b:Int)] (.int .i64 (b:Int)) (by simp[Act.eval]) (by simp[Act.eval]) (by rfl) _ 3 iq.O.a0 (by simp) FW (by simp[Value.oneCell']) #[.int .i64 (b:Int)] (by rfl) ?_
                 intro w2 hg2 fT;have E2:=Qh (iL iq.O.e0 hg2 (fun q=>by injection q with q;exact Fp q));have S2:=Qh (iL iq.O.s0 hg2 (fun q=>by injection q with q;exact ll q.symm)))
               |(refine nO rfl rfl 36 _ _ rfl be 0 [.int .i64 y] (.int .i64 y) (by simp[Act.eval]) (by simp[Act.eval]) (by rfl) _ 36 E2.O (by simp) zf (by simp[Value.oneCell']) #[.int .i64 y] (by rfl) ?_
                 intro w3 wL gM))
  go_wp2;go_ret;exact⟨rfl,⟨iL S2.O wL (fun q=>by injection q with q;exact pg q.symm),iL fT wL (fun q=>by injection q with q;exact Fp q.symm),gM⟩,_,WZ au hg2,wL⟩
 ·rw[z8 _ _ _ hz];have k1:(z !=0)=true:=by simpa using hz
  clear hz;go_enter Tryz.func53,Tryz.ntmps53
  go_wp2;go_ret;exact⟨rfl,hB,_,World.grownBy.refl _ _,World.grownBy.refl _ _⟩
theorem Xsc:(Tryz.prog.info? 38).map (fun i=>(i.zero,i.size,i.bytes))=some (some (.agg #[.int .i64 0,.int .i64 0,.string ⟨#[]⟩,.slice none 0 0,.string ⟨#[]⟩,.int .i64 0,.string ⟨#[]⟩,.slice none 0 0,.string ⟨#[]⟩,.int .i64 0]),10,144):=by kernel_rfl
theorem UI:eZ Tryz.prog 26 38 nY 144:=eZ.of Tryz.underlying26 Xsc rfl (by decide) rfl
theorem Xtk(n:Int)(hk:k<F.length){x:Rec}(hx:F[k]=x):di (F.take (k+1)) n=di (F.take k) n++(if(x.mh==n)=true then [x]else []):=by
 unfold di;rw[List.take_succ_eq_append_getElem hk,hx,List.filter_append,List.filter_cons,List.filter_nil]
theorem Xv3(F:List Rec)(n:Int)(k:Nat):(di (F.take k) n).length≤k:=by
 unfold di;have h1:=List.length_filter_le (fun f:Rec=>f.mh==n) (F.take k);have h2:(F.take k).length≤k:=by rw[List.length_take];omega
 omega
theorem Xvq{l:List Rec}{x:Rec}{c:Bool}(h:l=o++(if c=true then [x]else []))(hc:c=true):l=o++[x]:=by rw[h,if_pos hc]
theorem Xxl{l:List Rec}{x:Rec}{c:Bool}(h:l=o++(if c=true then [x]else []))(hc:c=false):l=o:=by rw[h,if_neg (by simp[hc]),List.append_nil]
theorem Xoq(I:IH)(vs vf:Value)(L:List bR)(F:List Rec)(lS:bf lL I vs L)(wu:bf nY I vf F)(hF:F.length≤1000000)(n:Int)(w:World)(hw:Ok I w):
 Calls Tryz.prog 25 #[EI vs vf,.int .i64 n] w fun r w'=> ∃v,r= .returned v∧aP nY 38 I w' w.heap.size v (di F n)∧Below w.heap.size w w':=by
 have Hv:=Qh wu;obtain⟨so,sc,rfl,_,_,_⟩:=id lS;obtain⟨fo,fc,rfl,_,_,_⟩:=id wu;have lW:Below w.heap.size w (w.alloc (.cells #[.slice so L.length sc,.slice fo F.length fc] 28)):=(Qb _ _).alloc (Qn _) _;clear lS wu;go_enter Tryz.func25,Tryz.ntmps25
 go_wp2_with fail
 go_loopw [5,7,11] (fun s5 _ s11 wr=> ∃k:Nat,k≤F.length∧s11= .int .i64 k∧aP nY 38 I wr w.heap.size s5 (di (F.take k) n)∧Below w.heap.size w wr) (fun _ _ i _=>F.length-(intOf i).toNat)
 case atStart=>exact⟨0,Nat.zero_le _,rfl,aP.nil _ _ _ _ _,lW⟩
 case round=>
  clear lW;obtain⟨k,hk,rfl,bE,hb⟩:=hrel;have bQ:=Qh bE;clear bE;have dA:Ok I wr:=hw.below (Qn _) hb;have ol:=Xv3 F n k;by_cases hlt:k<F.length
  ·obtain⟨x,va,vx,bb,off,cap',bH,dn,⟨c0,c1,c2,c3,c4,c5,c6,c7,c8,c9⟩,h1,h2⟩:=recAt Hv.O dA k hlt;cases dn;obtain⟨xa,xc,rfl,_,_,_⟩:=id h1;obtain⟨xx,xd,rfl,_,_,_⟩:=id h2;have xm:=Qh (show nY.rd I (uH x (.slice xa x.dm.ag.length xc) (.slice xx x.dm.ak.length xd)) x from⟨_,_,rfl,h1,h2⟩);have bB:=Qh (Xtk n hlt bH);have aF:=hb.alloc hb.size (.cells #[.int .i64 x.mh,.int .i64 x.dm.ai,S x.dm.af,.slice xa x.dm.ag.length xc,S x.dm.target,.int .i64 x.dm.size,S x.dm.aj,.slice xx x.dm.ak.length xd,S x.aU,.int .i64 x.err] 38);have qD:=Qh (bQ.O.alloc (.cells #[.int .i64 x.mh,.int .i64 x.dm.ai,S x.dm.af,.slice xa x.dm.ag.length xc,S x.dm.target,.int .i64 x.dm.size,S x.dm.aj,.slice xx x.dm.ak.length xd,S x.aU,.int .i64 x.err] 38));have pX:=aF.size;clear bH h1 h2 bQ;cases hq:(x.mh==n)
   ·have jF:=Qh (Xxl bB.O hq);go_wp2;go_roundw;case rel=>exact⟨k+1,by omega,by go_num,(by rw[jF.O];exact qD.O),aF⟩
    case measure=>simp[intOf];omega
   ·have jF:=Qh (Xvq bB.O hq);go_wp2_with (at_builtin;refine oK (w0:=wr.alloc (.cells #[.int .i64 x.mh,.int .i64 x.dm.ai,S x.dm.af,.slice xa x.dm.ag.length xc,S x.dm.target,.int .i64 x.dm.size,S x.dm.aj,.slice xx x.dm.ak.length xd,S x.aU,.int .i64 x.err] 38)) UI rfl _ _ rfl _ _ _ rfl qD.O x (uH x (.slice xa x.dm.ag.length xc) (.slice xx x.dm.ak.length xd)) _ (by simp[Act.eval]) xm.O (by omega) (by omega) pX ?_)
    intro v9 w9 ek eQ;have ig:=Below.own aF eQ qD.O (Qn _) pX;go_wp2;go_roundw;case rel=>exact⟨k+1,by omega,by go_num,(by rw[jF.O];exact ek),ig⟩
    case measure=>simp[intOf];omega
  ·rw[List.take_of_length_le (by omega)]at bQ;go_wp2;go_ret;exact⟨_,rfl,bQ.O,hb⟩
abbrev rF(x:Rec)(va vx:Value):Array Value:=#[.int .i64 x.mh,.int .i64 x.dm.ai,S x.dm.af,va,S x.dm.target,.int .i64 x.dm.size,S x.dm.aj,vx,S x.aU,.int .i64 x.err]
abbrev jO:Array Value:=#[.int .i64 0,.int .i64 0,.string ⟨#[]⟩,.slice none 0 0,.string ⟨#[]⟩,.int .i64 0,.string ⟨#[]⟩,.slice none 0 0,.string ⟨#[]⟩,.int .i64 0]
theorem Xqx{x:Rec}(h1:bf lT I va x.dm.ag)(h2:bf mr I vx x.dm.ak):(rF x va vx).all (·.oneCell')=true:=by
 have e1:=h1.one;have e2:=h2.one;simp[rF,e1,e2];exact⟨rfl,rfl,rfl,rfl,rfl,rfl,rfl,rfl⟩
def fD:Rec:=⟨0,zeroE,[],0⟩
def rG(F:List Rec)(n:Int)(k:Nat):Rec×Bool:=match (di F n)[k]? with|some x=>(x,true)|none=>(fD,false)
def YR(I:IH)(w:World)(x:Rec×Bool)(e:Ending)(w':World):Prop:=
 ∃va vx,e= .returned (.tuple #[Iw x.1 va vx,.bool x.2])∧bf lT I va x.1.dm.ag∧bf mr I vx x.1.dm.ak∧Below w.heap.size w w'
theorem Xtl(n:Int)(hk:k<F.length){x:Rec}(hx:F[k]=x):di (F.drop k) n=(if(x.mh==n)=true then [x]else [])++di (F.drop (k+1)) n:=by
 rw[List.drop_eq_getElem_cons hk,hx];unfold di;rw[List.filter_cons];cases (x.mh==n)<;>rfl
theorem Xn7(I:IH)(vs vf:Value)(L:List bR)(F:List Rec)(lS:bf lL I vs L)(wu:bf nY I vf F)(n:Int)(j:Nat)(hj:j≤1000000)(w:World)(hw:Ok I w):
 Calls Tryz.prog 32 #[EI vs vf,.int .i64 n,.int .i64 (j:Int)] w (YR I w (rG F n j)):=by
 have hlen:=wu.bW;have Hv:=Qh wu;obtain⟨so,sc,rfl,_,_,_⟩:=id lS;obtain⟨fo,fc,rfl,_,_,_⟩:=id wu;have lV:(Tryz.prog.info? 38).map (·.size)=some 10:=by kernel_rfl
 obtain⟨W,hW⟩:∃W,(w.alloc (.cells #[.slice so L.length sc,.slice fo F.length fc] 28)).alloc (.cells jO 38)=W:=⟨_,rfl⟩;have qh:Below w.heap.size w W:=by rw[←hW];exact((Qb _ _).alloc (Qn _) _).alloc (by simp) _
 have hsW:W.heap.size=w.heap.size+2:=by rw[←hW];simp
 have c0:W.cell? ⟨w.heap.size,1,none⟩=some (.slice fo F.length fc):=by rw[←hW];exact fP _ (by rw[World.cell?_alloc_new];rfl)
 have hz:W.heap[w.heap.size+1]?=some (.cells jO 38 (0,0)):=by
  rw[←hW];have:=heap_alloc_new (w.alloc (.cells #[.slice so L.length sc,.slice fo F.length fc] 28)) (.cells jO 38);simpa using this
 have Hz:=Qh hz;have dA:Ok I W:=hw.below (Qn _) qh;have HW:=Qh hW;have HsW:=Qh hsW;obtain⟨N,hN⟩:∃N,rG F n j=N:=⟨_,rfl⟩;rw[hN];have HN:=Qh (show rG (F.drop 0) n j=N from hN);clear lS wu hW hz hsW hN;go_enter Tryz.func32,Tryz.ntmps32
 go_wp2_with fail
 rw[show((w.alloc (.cells #[.slice so L.length sc,.slice fo F.length fc] 28)).alloc (.cells jO 38))=W from HW.O];go_loopw [2,8] (fun s2 s8 wr=> ∃k i:Nat,k≤F.length∧s8= .int .i64 k∧s2= .int .i64 i∧i≤1000000∧wr=W∧rG (F.drop k) n i=N) (fun _ i _=>F.length-(intOf i).toNat)
 case atStart=>exact⟨0,j,Nat.zero_le _,rfl,rfl,hj,rfl,HN.O⟩
 case round=>
  clear HN hj;obtain⟨k,i,hk,rfl,rfl,hi,rfl,hr⟩:=hrel;have Hr:=Qh hr;clear hr;by_cases hlt:k<F.length
  ·obtain⟨x,va,vx,b,off,cap',bH,dn,⟨d0,d1,d2,d3,d4,d5,d6,d7,d8,d9⟩,h1,h2⟩:=recAt Hv.O dA k hlt;cases dn;have bB:=Qh (Xtl n hlt bH);obtain⟨aa,ca,rfl,_,_,_⟩:=id h1;obtain⟨ax,cx,rfl,_,_,_⟩:=id h2;have H1:=Qh h1;have H2:=Qh h2;clear bH h1 h2;cases he:(x.mh==n)
   ·have he2:(x.mh !=n)=true:=by rw[bne,he];rfl
    have Hn:=Qh (show rG (F.drop (k+1)) n i=N by rw[←Hr.O];unfold rG;rw[bB.O,he];rfl);go_wp2;go_roundw;case rel=>exact⟨k+1,i,by omega,by go_num,by first|rfl|trivial,hi,by first|rfl|trivial,Hn.O⟩
    case measure=>simp[intOf];omega
   ·have he2:(x.mh !=n)=false:=by rw[bne,he];rfl
    rcases i with _|i
    ·have Hn:=Qh (show N=(x,true) by rw[←Hr.O];unfold rG;rw[bB.O,he];rfl);have Fs:=Xqx H1.O H2.O;have i0:(((0:Nat):Int)==0)=true:=rfl;go_wp2_with (refine wpList_store_row rfl 38 _ _ rfl (w.heap.size+1) (rF x (.slice aa x.dm.ag.length ca) (.slice ax x.dm.ak.length cx)) rfl rfl 38 jO Hz.O lV rfl Fs ?_)
     try simp only[Exit.inBlock,Exit.then]
     refine bodyPost_ret (v:= .tuple #[Iw x (.slice aa x.dm.ag.length ca) (.slice ax x.dm.ak.length cx),.bool true]) ?_ rfl ?_
     ·rw[results_cell_tmp rfl];simp[asAddr,run_loadVar_row _ (w.heap.size+1) 38 38 (rF x (.slice aa x.dm.ag.length ca) (.slice ax x.dm.ak.length cx)) (0,0) _ (setRow_heap _ _ _ _ _ _ Hz.O) Tryz.underlying38 rfl lV]
     ·rw[Hn.O];exact⟨_,_,rfl,H1.O,H2.O,below_setRow qh (by omega) _⟩
    ·have Hn:=Qh (show rG (F.drop (k+1)) n i=N by rw[←Hr.O];unfold rG;rw[bB.O,he];rfl);have i0:(((i+1:Nat):Int)==0)=false:=by simp;omega
     go_wp2;go_roundw;case rel=>exact⟨k+1,i,by omega,by go_num,by go_num,by omega,by first|rfl|trivial,Hn.O⟩
     case measure=>simp[intOf];omega
  ·have Hn:=Qh (show N=(fD,false) by rw[←Hr.O,List.drop_of_length_le (by omega)];rfl);have Pm:jO.all (·.oneCell')=true:=by simp[Value.oneCell']
   go_wp2_with (refine wpList_store_row rfl 38 _ _ rfl (w.heap.size+1) jO rfl rfl 38 jO Hz.O lV rfl Pm ?_)
   try simp only[Exit.inBlock,Exit.then]
   refine bodyPost_ret (v:= .tuple #[.agg jO,.bool false]) ?_ rfl ?_
   ·rw[results_cell_tmp rfl];simp[asAddr,run_loadVar_row _ (w.heap.size+1) 38 38 jO (0,0) _ (setRow_heap _ _ _ _ _ _ Hz.O) Tryz.underlying38 rfl lV]
   ·rw[Hn.O];exact⟨.slice none 0 0,.slice none 0 0,rfl,bf.nil _ _,bf.nil _ _,below_setRow qh (by omega) _⟩
theorem Xqm(n:Nat)(hn:n≤65536):∃ZZ:Array Value,(∀W,(Instr.makeSlice 69 (.int .i64 (n:Int)) (.int .i64 (n:Int))).run Tryz.prog W= .ok (.slice (some ⟨W.heap.size,0,none⟩) n n) (W.alloc (.cells ZZ 5)))∧
 ∀W:World,(convert 69 9 (.slice (some ⟨W.heap.size,0,none⟩) n n)).run Tryz.prog (W.alloc (.cells ZZ 5))= .ok (S (List.replicate n 0)) (W.alloc (.cells ZZ 5)):=by
 obtain⟨i,h1,h2,h3,h4⟩:=info_parts Pw;refine⟨madeCells (Value.int .u8 0).cells (n*i.size),fun W=> ?_,fun W=> ?_⟩
 ·have:=run_make (P:=Tryz.prog) W 69 5 i _ Tryz.underlying69 h1 h2 .i64 .i64 (n:Int) (n:Int) (by omega) (by omega) (by rw[h4];omega) (by omega);simpa using this
 ·rw[h3,Nat.mul_one,run_convert_bytes_string _ _ _ 5 _ _ _ Tryz.underlying69 Tryz.underlying5 Tryz.underlying9,run_bytesToString (ns:=List.replicate n 0)]
  ·rw[Xpo];simp
  ·have h:=run_loadCells_list (P:=Tryz.prog) (W.alloc (.cells (madeCells (Value.int .u8 0).cells n) 5)) ⟨W.heap.size,0,none⟩ ((List.replicate n (0:Int)).map (Value.int .u8)) (fun j u hu=>by
    rw[Addr.add_lit,Nat.zero_add,World.cell?_alloc_new,←Array.getElem?_toList];rw[show(Value.int .u8 0).cells=#[Value.int .u8 0]from rfl,toList_madeCells_one];simpa using hu)
   rw[List.length_map,List.length_replicate]at h;exact h
theorem Xmq{l:List Xt}{out:ae}{N:ae×Int}(hk:k<l.length){x:Xt}(hx:l[k]=x)(h:jV st (l.drop k) out=N):
 (if uA st x=true then([],2)else if 0<x.s∧(((lK st x).length:Int)<x.o∨((lK st x).length:Int)-x.o<x.n)then([],2)else if 65536-(out.length:Int)<x.n then([],6)
 else jV st (l.drop (k+1)) (out++if x.s=0 then List.replicate x.n.toNat 0 else((lK st x).drop x.o.toNat).take x.n.toNat))=N:=by
 rw[List.drop_eq_getElem_cons hk,hx,jV]at h;exact h
theorem Gh{x:Xt}(h:x.n<0∨x.o<0∨x.s<0∨(st.length:Int)<x.s∨(x.s=0∧x.o≠0)):uA st x=true:=by
 unfold uA;rcases h with h|h|h|h|⟨h1,h2⟩
 ·rw[Qt h];simp
 ·rw[Qt h];simp
 ·rw[Qt h];simp
 ·rw[Qt h];simp
 ·simp[h1,h2]
theorem UJ{x:Xt}(h1:¬x.n<0)(h2:¬x.o<0)(h3:¬x.s<0)(h4:¬(st.length:Int)<x.s)(h5:¬(x.s=0∧x.o≠0)):uA st x=false:=by
 unfold uA;rw[Qf h1,Qf h2,Qf h3,Qf h4];simpa using h5
theorem Xr8(I:IH)(vs vl:Value)(st:List ae)(l:List Xt)(lS:bf jE I vs st)(I9:bf mr I vl l)(gB:∀s∈st,s.length≤9223372036854775807)(w:World)(hw:Ok I w):
 Calls Tryz.prog 57 #[vs,vl] w fun e w'=>e= .returned (.tuple #[S (l7 st l).1,.int .i64 (l7 st l).2])∧Below w.heap.size w w':=by
 have SA:=lS.bW;have SK:=I9.bW;obtain⟨as0,cs0,rfl,_,_,_⟩:=id lS;obtain⟨al,cl,rfl,_,_,_⟩:=id I9;have Ce:=Qh lS;have YT:=Qh I9;have bB:=Qh gB;obtain⟨N,hN⟩:∃N,l7 st l=N:=⟨_,rfl⟩;have HN:=Qh (show jV st (l.drop 0) []=N from hN);rw[hN];clear lS I9 gB hN;go_enter Tryz.func57,Tryz.ntmps57
 go_wp2_with fail
 go_loopw [6,7] (fun s6 s7 wr=> ∃(k:Nat) (out:ae),k≤l.length∧s7= .int .i64 k∧s6=S out∧out.length≤65536∧jV st (l.drop k) out=N∧Below w.heap.size w wr) (fun _ i _=>l.length-(intOf i).toNat)
 case atStart=>exact⟨0,[],Nat.zero_le _,rfl,rfl,by simp,HN.O,Qb _ _⟩
 case round=>
  clear HN;obtain⟨k,out,hk,rfl,rfl,Dr,hr,hb⟩:=hrel;have Hr:=Qh hr;have gG:Ok I wr:=hw.below (Qn _) hb;clear hr;by_cases hlt:k<l.length
  ·obtain⟨x,b,off,cap',bH,dn,x0,x1,x2⟩:=uZ YT.O gG k hlt;cases dn;have Hg:=Qh (Xmq hlt bH Hr.O);clear bH Hr;obtain⟨zs,zo,zn⟩:=x;dsimp only at x0 x1 x2;have m65:IntKind.i64.wrap (65536-(out.length:Int))=65536-(out.length:Int):=IntWalk.i64_in _ (by omega);by_cases g1:zn<0
   ·have Hn:=Qh (show N=([],2) by have:=Hg.O;rw[if_pos (Gh (x:=⟨zs,zo,zn⟩) (.inl g1))]at this;exact this.symm);have d1:decide (zn<0)=true:=Qt g1;clear g1;have y0:(wr.alloc (.cells #[.int .i64 (zs),.int .i64 (zo),.int .i64 (zn)] 110)).cell? ⟨wr.heap.size,0,none⟩=some (.int .i64 (zs)):=by simp
    have y1:(wr.alloc (.cells #[.int .i64 (zs),.int .i64 (zo),.int .i64 (zn)] 110)).cell? ⟨wr.heap.size,1,none⟩=some (.int .i64 (zo)):=by simp
    have y2:(wr.alloc (.cells #[.int .i64 (zs),.int .i64 (zo),.int .i64 (zn)] 110)).cell? ⟨wr.heap.size,2,none⟩=some (.int .i64 (zn)):=by simp
    have au:=hb.alloc hb.size (.cells #[.int .i64 (zs),.int .i64 (zo),.int .i64 (zn)] 110);go_wp2;go_ret2;rw[Hn.O];exact⟨rfl,au⟩
   have d1:decide (zn<0)=false:=Qf g1;by_cases g2:zo<0
   ·have Hn:=Qh (show N=([],2) by have:=Hg.O;rw[if_pos (Gh (x:=⟨zs,zo,zn⟩) (.inr (.inl g2)))]at this;exact this.symm);have d2:decide (zo<0)=true:=Qt g2;clear g1 g2;have y0:(wr.alloc (.cells #[.int .i64 (zs),.int .i64 (zo),.int .i64 (zn)] 110)).cell? ⟨wr.heap.size,0,none⟩=some (.int .i64 (zs)):=by simp
    have y1:(wr.alloc (.cells #[.int .i64 (zs),.int .i64 (zo),.int .i64 (zn)] 110)).cell? ⟨wr.heap.size,1,none⟩=some (.int .i64 (zo)):=by simp
    have y2:(wr.alloc (.cells #[.int .i64 (zs),.int .i64 (zo),.int .i64 (zn)] 110)).cell? ⟨wr.heap.size,2,none⟩=some (.int .i64 (zn)):=by simp
    have au:=hb.alloc hb.size (.cells #[.int .i64 (zs),.int .i64 (zo),.int .i64 (zn)] 110);go_wp2;go_ret2;rw[Hn.O];exact⟨rfl,au⟩
   have d2:decide (zo<0)=false:=Qf g2;by_cases g3:zs<0
   ·have Hn:=Qh (show N=([],2) by have:=Hg.O;rw[if_pos (Gh (x:=⟨zs,zo,zn⟩) (.inr (.inr (.inl g3))))]at this;exact this.symm);have d3:decide (zs<0)=true:=Qt g3;clear g1 g2 g3;have y0:(wr.alloc (.cells #[.int .i64 (zs),.int .i64 (zo),.int .i64 (zn)] 110)).cell? ⟨wr.heap.size,0,none⟩=some (.int .i64 (zs)):=by simp
    have y1:(wr.alloc (.cells #[.int .i64 (zs),.int .i64 (zo),.int .i64 (zn)] 110)).cell? ⟨wr.heap.size,1,none⟩=some (.int .i64 (zo)):=by simp
    have y2:(wr.alloc (.cells #[.int .i64 (zs),.int .i64 (zo),.int .i64 (zn)] 110)).cell? ⟨wr.heap.size,2,none⟩=some (.int .i64 (zn)):=by simp
    have au:=hb.alloc hb.size (.cells #[.int .i64 (zs),.int .i64 (zo),.int .i64 (zn)] 110);go_wp2;go_ret2;rw[Hn.O];exact⟨rfl,au⟩
   have d3:decide (zs<0)=false:=Qf g3;by_cases g4:(st.length:Int)<zs
   ·have Hn:=Qh (show N=([],2) by have:=Hg.O;rw[if_pos (Gh (x:=⟨zs,zo,zn⟩) (.inr (.inr (.inr (.inl g4)))))]at this;exact this.symm);have d4:decide ((st.length:Int)<zs)=true:=Qt g4;clear g1 g2 g3 g4;have y0:(wr.alloc (.cells #[.int .i64 (zs),.int .i64 (zo),.int .i64 (zn)] 110)).cell? ⟨wr.heap.size,0,none⟩=some (.int .i64 (zs)):=by simp
    have y1:(wr.alloc (.cells #[.int .i64 (zs),.int .i64 (zo),.int .i64 (zn)] 110)).cell? ⟨wr.heap.size,1,none⟩=some (.int .i64 (zo)):=by simp
    have y2:(wr.alloc (.cells #[.int .i64 (zs),.int .i64 (zo),.int .i64 (zn)] 110)).cell? ⟨wr.heap.size,2,none⟩=some (.int .i64 (zn)):=by simp
    have au:=hb.alloc hb.size (.cells #[.int .i64 (zs),.int .i64 (zo),.int .i64 (zn)] 110);go_wp2;go_ret2;rw[Hn.O];exact⟨rfl,au⟩
   have d4:decide ((st.length:Int)<zs)=false:=Qf g4;have AL:(0:Int)≤zn:=by omega
   by_cases mq:zs=0
   ·have e1:(zs==0)=true:=by simpa using mq
    have e2:decide (0<zs)=false:=Qf (by omega);by_cases AX:zo=0;case neg=>
     have Hn:=Qh (show N=([],2) by have:=Hg.O;rw[if_pos (Gh (x:=⟨zs,zo,zn⟩) (.inr (.inr (.inr (.inr ⟨mq,AX⟩)))))]at this;exact this.symm);have e3:(zo !=0)=true:=by simpa using AX
     clear g1 g2 g3 g4 mq AX;have y0:(wr.alloc (.cells #[.int .i64 (zs),.int .i64 (zo),.int .i64 (zn)] 110)).cell? ⟨wr.heap.size,0,none⟩=some (.int .i64 (zs)):=by simp
     have y1:(wr.alloc (.cells #[.int .i64 (zs),.int .i64 (zo),.int .i64 (zn)] 110)).cell? ⟨wr.heap.size,1,none⟩=some (.int .i64 (zo)):=by simp
     have y2:(wr.alloc (.cells #[.int .i64 (zs),.int .i64 (zo),.int .i64 (zn)] 110)).cell? ⟨wr.heap.size,2,none⟩=some (.int .i64 (zn)):=by simp
     have au:=hb.alloc hb.size (.cells #[.int .i64 (zs),.int .i64 (zo),.int .i64 (zn)] 110);go_wp2;go_ret2;rw[Hn.O];exact⟨rfl,au⟩
    have e3:(zo !=0)=false:=by simpa using AX
    have uD:=Qh (show(if 65536-(out.length:Int)<zn then(([],6):ae×Int)else jV st (l.drop (k+1)) (out++List.replicate zn.toNat 0))=N by
     have h:=Hg.O;dsimp only at h;rw[if_neg (by rw[UJ (x:=⟨zs,zo,zn⟩) g1 g2 g3 g4 (fun h=>h.2 AX)];simp),if_neg (by omega),if_pos mq]at h;exact h)
    by_cases mO:65536-(out.length:Int)<zn
    ·have Hn:=Qh (show N=([],6) by have:=uD.O;rw[if_pos mO]at this;exact this.symm);have d5:decide (65536-(out.length:Int)<zn)=true:=Qt mO;clear g1 g2 g3 g4 mq AX mO Hg uD;have y0:(wr.alloc (.cells #[.int .i64 (zs),.int .i64 (zo),.int .i64 (zn)] 110)).cell? ⟨wr.heap.size,0,none⟩=some (.int .i64 (zs)):=by simp
     have y1:(wr.alloc (.cells #[.int .i64 (zs),.int .i64 (zo),.int .i64 (zn)] 110)).cell? ⟨wr.heap.size,1,none⟩=some (.int .i64 (zo)):=by simp
     have y2:(wr.alloc (.cells #[.int .i64 (zs),.int .i64 (zo),.int .i64 (zn)] 110)).cell? ⟨wr.heap.size,2,none⟩=some (.int .i64 (zn)):=by simp
     have au:=hb.alloc hb.size (.cells #[.int .i64 (zs),.int .i64 (zo),.int .i64 (zn)] 110);go_wp2_with fail
     have z0:=cell_regrown y0;have z1:=cell_regrown y1;have z2:=cell_regrown y2;refine wp_region_quiet_below (by kernel_rfl) (by kernel_rfl) ?_;repeat(go_big_quiet_step ((fail)))
     refine wpQuiet_nil ?_;intro w2 bg;have aF:Below ((wr.alloc (.cells #[.int .i64 (zs),.int .i64 (zo),.int .i64 (zn)] 110))).heap.size ((wr.alloc (.cells #[.int .i64 (zs),.int .i64 (zo),.int .i64 (zn)] 110))) w2:=by
      obtain⟨pq,rfl⟩:=bg;exact below_regrown _ _ _
     clear bg;replace y0:=dh aF y0;replace y1:=dh aF y1;replace y2:=dh aF y2;clear z0 z1 z2;go_wp2;go_ret2;rw[Hn.O];exact⟨rfl,au.trans (aF.mono au.size)⟩
    ·obtain⟨q,rfl⟩:∃q:Nat,zn=(q:Int):=⟨zn.toNat,by omega⟩;have C9:q+out.length≤65536:=by omega
     have Hn:=Qh (show jV st (l.drop (k+1)) (out++List.replicate q 0)=N by have:=uD.O;rw[if_neg mO,Int.toNat_natCast]at this;exact this);have d5:decide (65536-(out.length:Int)<(q:Int))=false:=Qf (by omega);obtain⟨ZZ,iO,OI⟩:=Xqm q (by omega);clear g1 g2 g3 g4 mq AX mO Hg uD;have y0:(wr.alloc (.cells #[.int .i64 (zs),.int .i64 (zo),.int .i64 ((q:Int))] 110)).cell? ⟨wr.heap.size,0,none⟩=some (.int .i64 (zs)):=by simp
     have y1:(wr.alloc (.cells #[.int .i64 (zs),.int .i64 (zo),.int .i64 ((q:Int))] 110)).cell? ⟨wr.heap.size,1,none⟩=some (.int .i64 (zo)):=by simp
     have y2:(wr.alloc (.cells #[.int .i64 (zs),.int .i64 (zo),.int .i64 ((q:Int))] 110)).cell? ⟨wr.heap.size,2,none⟩=some (.int .i64 ((q:Int))):=by simp
     have au:=hb.alloc hb.size (.cells #[.int .i64 (zs),.int .i64 (zo),.int .i64 ((q:Int))] 110);go_wp2_with fail
     have z0:=cell_regrown y0;have z1:=cell_regrown y1;have z2:=cell_regrown y2;refine wp_region_quiet_below (by kernel_rfl) (by kernel_rfl) ?_;repeat(go_big_quiet_step ((fail)))
     refine wpQuiet_nil ?_;intro w2 bg;have aF:Below ((wr.alloc (.cells #[.int .i64 (zs),.int .i64 (zo),.int .i64 ((q:Int))] 110))).heap.size ((wr.alloc (.cells #[.int .i64 (zs),.int .i64 (zo),.int .i64 ((q:Int))] 110))) w2:=by
      obtain⟨pq,rfl⟩:=bg;exact below_regrown _ _ _
     clear bg;replace y0:=dh aF y0;replace y1:=dh aF y1;replace y2:=dh aF y2;clear z0 z1 z2;have aL:=au.trans (aF.mono au.size);have amG:=OI w2;have amH:=iO w2;go_wp2;go_roundw;case rel=>exact⟨k+1,_,by omega,by go_num,rfl,by simp;omega,Hn.O,aL.alloc aL.size _⟩
     case measure=>simp[intOf];omega
   ·obtain⟨m,rfl⟩:∃m:Nat,zs=(m:Int)+1:=⟨(zs-1).toNat,by omega⟩;have MW:m<st.length:=by omega
    obtain⟨u,bu,Lv,Lx,xD,dn,u0⟩:=DI Ce.O (gG.alloc (.cells #[.int .i64 ((m:Int)+1),.int .i64 zo,.int .i64 zn] 110)) m MW;cases dn;have GX:=bB.O u (by rw[←xD];exact List.getElem_mem MW);have SS:lK st ⟨(m:Int)+1,zo,zn⟩=u:=by
     show st.getD (((m:Int)+1-1).toNat) []=u;rw[show((m:Int)+1-1).toNat=m by omega];simp[List.getD,MW,xD]
    have e1:(((m:Int)+1)==0)=false:=by simpa using mq
    have e2:decide ((0:Int)<(m:Int)+1)=true:=Qt (by omega);have i1:(m:Int)<st.length:=by omega
    have uj:=Qh (show(if 0<(m:Int)+1∧((u.length:Int)<zo∨(u.length:Int)-zo<zn)then(([],2):ae×Int)else if 65536-(out.length:Int)<zn then([],6)else jV st (l.drop (k+1)) (out++(u.drop zo.toNat).take zn.toNat))=N by
     have h:=Hg.O;dsimp only at h;rw[if_neg (by rw[UJ (x:=⟨(m:Int)+1,zo,zn⟩) g1 g2 g3 g4 (fun h=>mq h.1)];simp),SS]at h;rw[←h];simp only[if_neg mq])
    clear Hg SS xD;by_cases vP:(u.length:Int)<zo
    ·have Hn:=Qh (show N=([],2) by have:=uj.O;rw[if_pos ⟨by omega,.inl vP⟩]at this;exact this.symm);have d6:decide ((u.length:Int)<zo)=true:=Qt vP;clear g1 g2 g3 g4 mq vP uj;have u1:=cell_regrown u0;have y0:(wr.alloc (.cells #[.int .i64 ((m:Int)+1),.int .i64 (zo),.int .i64 (zn)] 110)).cell? ⟨wr.heap.size,0,none⟩=some (.int .i64 ((m:Int)+1)):=by simp
     have y1:(wr.alloc (.cells #[.int .i64 ((m:Int)+1),.int .i64 (zo),.int .i64 (zn)] 110)).cell? ⟨wr.heap.size,1,none⟩=some (.int .i64 (zo)):=by simp
     have y2:(wr.alloc (.cells #[.int .i64 ((m:Int)+1),.int .i64 (zo),.int .i64 (zn)] 110)).cell? ⟨wr.heap.size,2,none⟩=some (.int .i64 (zn)):=by simp
     have au:=hb.alloc hb.size (.cells #[.int .i64 ((m:Int)+1),.int .i64 (zo),.int .i64 (zn)] 110);go_wp2_with fail
     have z0:=cell_regrown y0;have z1:=cell_regrown y1;have z2:=cell_regrown y2;refine wp_region_quiet_below (by kernel_rfl) (by kernel_rfl) ?_;repeat(go_big_quiet_step ((fail)))
     refine wpQuiet_nil ?_;intro w2 bg;have aF:Below ((wr.alloc (.cells #[.int .i64 ((m:Int)+1),.int .i64 (zo),.int .i64 (zn)] 110))).heap.size ((wr.alloc (.cells #[.int .i64 ((m:Int)+1),.int .i64 (zo),.int .i64 (zn)] 110))) w2:=by
      obtain⟨pq,rfl⟩:=bg;exact below_regrown _ _ _
     clear bg;replace y0:=dh aF y0;replace y1:=dh aF y1;replace y2:=dh aF y2;clear z0 z1 z2;go_wp2;go_ret2;rw[Hn.O];exact⟨rfl,au.trans (aF.mono au.size)⟩
    have d6:decide ((u.length:Int)<zo)=false:=Qf vP;have m8:IntKind.i64.wrap ((u.length:Int)-zo)=(u.length:Int)-zo:=IntWalk.i64_in _ (by omega);have m9:wrap64 ((u.length:Int)-zo)=(u.length:Int)-zo:=by unfold wrap64;omega
    by_cases kD:(u.length:Int)-zo<zn
    ·have Hn:=Qh (show N=([],2) by have:=uj.O;rw[if_pos ⟨by omega,.inr kD⟩]at this;exact this.symm);have d7:decide ((u.length:Int)-zo<zn)=true:=Qt kD;clear g1 g2 g3 g4 mq vP kD uj;have u1:=cell_regrown u0;have y0:(wr.alloc (.cells #[.int .i64 ((m:Int)+1),.int .i64 (zo),.int .i64 (zn)] 110)).cell? ⟨wr.heap.size,0,none⟩=some (.int .i64 ((m:Int)+1)):=by simp
     have y1:(wr.alloc (.cells #[.int .i64 ((m:Int)+1),.int .i64 (zo),.int .i64 (zn)] 110)).cell? ⟨wr.heap.size,1,none⟩=some (.int .i64 (zo)):=by simp
     have y2:(wr.alloc (.cells #[.int .i64 ((m:Int)+1),.int .i64 (zo),.int .i64 (zn)] 110)).cell? ⟨wr.heap.size,2,none⟩=some (.int .i64 (zn)):=by simp
     have au:=hb.alloc hb.size (.cells #[.int .i64 ((m:Int)+1),.int .i64 (zo),.int .i64 (zn)] 110);go_wp2_with fail
     have z0:=cell_regrown y0;have z1:=cell_regrown y1;have z2:=cell_regrown y2;refine wp_region_quiet_below (by kernel_rfl) (by kernel_rfl) ?_;repeat(go_big_quiet_step ((fail)))
     refine wpQuiet_nil ?_;intro w2 bg;have aF:Below ((wr.alloc (.cells #[.int .i64 ((m:Int)+1),.int .i64 (zo),.int .i64 (zn)] 110))).heap.size ((wr.alloc (.cells #[.int .i64 ((m:Int)+1),.int .i64 (zo),.int .i64 (zn)] 110))) w2:=by
      obtain⟨pq,rfl⟩:=bg;exact below_regrown _ _ _
     clear bg;replace y0:=dh aF y0;replace y1:=dh aF y1;replace y2:=dh aF y2;clear z0 z1 z2;go_wp2;go_ret2;rw[Hn.O];exact⟨rfl,au.trans (aF.mono au.size)⟩
    have d7:decide ((u.length:Int)-zo<zn)=false:=Qf kD;have uD:=Qh (show(if 65536-(out.length:Int)<zn then(([],6):ae×Int)else jV st (l.drop (k+1)) (out++(u.drop zo.toNat).take zn.toNat))=N by
     have h:=uj.O;rw[if_neg (by omega)]at h;exact h)
    by_cases mO:65536-(out.length:Int)<zn
    ·have Hn:=Qh (show N=([],6) by have:=uD.O;rw[if_pos mO]at this;exact this.symm);have d5:decide (65536-(out.length:Int)<zn)=true:=Qt mO;clear g1 g2 g3 g4 mq vP kD mO uj uD;have u1:=cell_regrown u0;have y0:(wr.alloc (.cells #[.int .i64 ((m:Int)+1),.int .i64 (zo),.int .i64 (zn)] 110)).cell? ⟨wr.heap.size,0,none⟩=some (.int .i64 ((m:Int)+1)):=by simp
     have y1:(wr.alloc (.cells #[.int .i64 ((m:Int)+1),.int .i64 (zo),.int .i64 (zn)] 110)).cell? ⟨wr.heap.size,1,none⟩=some (.int .i64 (zo)):=by simp
     have y2:(wr.alloc (.cells #[.int .i64 ((m:Int)+1),.int .i64 (zo),.int .i64 (zn)] 110)).cell? ⟨wr.heap.size,2,none⟩=some (.int .i64 (zn)):=by simp
     have au:=hb.alloc hb.size (.cells #[.int .i64 ((m:Int)+1),.int .i64 (zo),.int .i64 (zn)] 110);go_wp2_with fail
     have z0:=cell_regrown y0;have z1:=cell_regrown y1;have z2:=cell_regrown y2;refine wp_region_quiet_below (by kernel_rfl) (by kernel_rfl) ?_;repeat(go_big_quiet_step ((fail)))
     refine wpQuiet_nil ?_;intro w2 bg;have aF:Below ((wr.alloc (.cells #[.int .i64 ((m:Int)+1),.int .i64 (zo),.int .i64 (zn)] 110))).heap.size ((wr.alloc (.cells #[.int .i64 ((m:Int)+1),.int .i64 (zo),.int .i64 (zn)] 110))) w2:=by
      obtain⟨pq,rfl⟩:=bg;exact below_regrown _ _ _
     clear bg;replace y0:=dh aF y0;replace y1:=dh aF y1;replace y2:=dh aF y2;clear z0 z1 z2;go_wp2;go_ret2;rw[Hn.O];exact⟨rfl,au.trans (aF.mono au.size)⟩
    have d5:decide (65536-(out.length:Int)<zn)=false:=Qf (by omega);have u1:=cell_regrown u0;have Oi:0≤zo∧0≤zn∧zo+zn≤(u.length:Int)∧zn+(out.length:Int)≤65536:=by omega
    have Hzr:=Qh Oi;have qV:=Qh (show jV st (l.drop (k+1)) (out++(u.drop zo.toNat).take zn.toNat)=N by have:=uD.O;rwa[if_neg mO]at this);clear g1 g2 g3 g4 mq vP kD mO uj uD Oi;have y0:(wr.alloc (.cells #[.int .i64 ((m:Int)+1),.int .i64 (zo),.int .i64 (zn)] 110)).cell? ⟨wr.heap.size,0,none⟩=some (.int .i64 ((m:Int)+1)):=by simp
    have y1:(wr.alloc (.cells #[.int .i64 ((m:Int)+1),.int .i64 (zo),.int .i64 (zn)] 110)).cell? ⟨wr.heap.size,1,none⟩=some (.int .i64 (zo)):=by simp
    have y2:(wr.alloc (.cells #[.int .i64 ((m:Int)+1),.int .i64 (zo),.int .i64 (zn)] 110)).cell? ⟨wr.heap.size,2,none⟩=some (.int .i64 (zn)):=by simp
    have au:=hb.alloc hb.size (.cells #[.int .i64 ((m:Int)+1),.int .i64 (zo),.int .i64 (zn)] 110);go_wp2_with fail
    have z0:=cell_regrown y0;have z1:=cell_regrown y1;have z2:=cell_regrown y2;refine wp_region_quiet_below (by kernel_rfl) (by kernel_rfl) ?_;repeat(go_big_quiet_step ((fail)))
    refine wpQuiet_nil ?_;intro w2 bg;have aF:Below ((wr.alloc (.cells #[.int .i64 ((m:Int)+1),.int .i64 (zo),.int .i64 (zn)] 110))).heap.size ((wr.alloc (.cells #[.int .i64 ((m:Int)+1),.int .i64 (zo),.int .i64 (zn)] 110))) w2:=by
     obtain⟨pq,rfl⟩:=bg;exact below_regrown _ _ _
    clear bg;replace y0:=dh aF y0;replace y1:=dh aF y1;replace y2:=dh aF y2;clear z0 z1 z2;replace u0:=dh aF u0;have aL:=au.trans (aF.mono au.size);go_wp2_with fail
    have Oi:=Hzr.O;obtain⟨q,rfl⟩:∃q:Nat,zn=(q:Int):=⟨zn.toNat,by omega⟩;obtain⟨r,rfl⟩:∃r:Nat,zo=(r:Int):=⟨zo.toNat,by omega⟩;have C9:q+out.length≤65536:=by omega
    have SV:r+q≤u.length:=by omega
    have Hn:=Qh (show jV st (l.drop (k+1)) (out++(u.drop r).take q)=N by have:=qV.O;rwa[Int.toNat_natCast,Int.toNat_natCast]at this);have m7:IntKind.i64.wrap ((r:Int)+(q:Int))=(r:Int)+(q:Int):=IntWalk.i64_in _ (by omega);have i2:(0:Int)≤r:=by omega
    have i3:(r:Int)≤(r:Int)+q:=by omega
    have i4:(r:Int)+q≤u.length:=by omega
    clear Oi Hzr qV d5 d6 d7 m8 m9;have u3:=cell_regrown u0;have z0:=cell_regrown y0;have z1:=cell_regrown y1;have z2:=cell_regrown y2;refine wp_region_quiet_below (by kernel_rfl) (by kernel_rfl) ?_;repeat(go_big_quiet_step ((fail)))
    refine wpQuiet_nil ?_;intro w3 bg;have cO:Below (w2).heap.size (w2) w3:=by
     obtain⟨pq,rfl⟩:=bg;exact below_regrown _ _ _
    clear bg;go_wp2;go_roundw;case rel=>exact⟨k+1,out++(u.drop r).take q,by omega,by go_num,by simp[S],by simp;omega,Hn.O,aL.trans (cO.mono aL.size)⟩
    case measure=>simp[intOf];omega
  ·have Hn:=Qh (show N=(out,0) by have:=Hr.O;rw[List.drop_of_length_le (by omega)]at this;exact this.symm);go_wp2;go_ret2;rw[Hn.O];exact⟨rfl,hb⟩
