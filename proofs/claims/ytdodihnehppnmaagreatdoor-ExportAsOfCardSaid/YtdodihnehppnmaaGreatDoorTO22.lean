/-
  Walks and laws that the claim's theorem uses: texts EgE, joined; comments out. Conditions: as each theorem says.
-/
import Derived.Test.YtdodihnehppnmaaGreatDoorTO19
import Derived.Test.YtdodihnehppnmaaGreatDoorTO21
set_option linter.all false
namespace Go.Proofs.YtdodihnehppnmaaGreatDoor
open Go.RowKit
def RetEn (I:IH) (w:World) (p:Ent × Bool) (e:Ending) (w':World):Prop:=
 ∃va vx J,e= .returned (.tuple #[entV p.1 va vx,.bool p.2])∧RdS tAt J va p.1.attrs∧RdS tXt J vx p.1.exts∧Ext w.heap.size I J∧Ok J w'∧Below w.heap.size w w'
def entS (r:Rd Ent):Ent × Bool:=match r with| .ok p=>(p.1,p.1.kind==1)| .error _=>(zE,false)
def entQ (c:Bytes) (r r2:Rd Ent):Ent × Bool:=match r with| .ok p=>(p.1,c.isEmpty&&(p.1.kind==2 || p.1.kind==3))| .error _=>if 65536<c.length then (zE,false) else entS r2
theorem Xwi (h c:Bytes):entOf h c=entQ c (rdEnt (noneT h) 0) (rdEnt (fileT 0 h c) 0):=by
 unfold entOf entQ entS
 cases rdEnt (noneT h) 0<;>cases rdEnt (fileT 0 h c) 0<;>rfl
structure EoM (I:IH) (w:World) (J:IH) (W:World):Prop where
 mt:MAt I w J W
 ex:Ext w.heap.size I J
 fr:J w.heap.size=none
 res:W.heap[w.heap.size]? =some (.cells zeroRow 26 (0,0))
section
variable {I J J':IH} {w W W':World}
theorem EoM.lt (h:EoM I w J W):w.heap.size<W.heap.size:=(Array.getElem?_eq_some_iff.1 h.res).1
theorem EoM.thru (h:EoM I w J W) (hb:Below W.heap.size W W'):EoM I w J W':=⟨h.mt.quiet hb,h.ex,h.fr,Xah h.res hb⟩
theorem EoM.past (h:EoM I w J W) (o:Obj):EoM I w J (W.alloc o):=h.thru ((Qb _ _).alloc (Qn _) o)
theorem EoM.ext (h:EoM I w J W) (hb:Below W.heap.size W W') (hx:Ext W.heap.size J J') (hok:Ok J' W'):EoM I w J' W':=
 ⟨h.mt.ext hb hx hok,h.ex.trans (hx.mono (Nat.le_of_lt h.lt)) (Qn _),(hx _ h.lt).trans h.fr,Xah h.res hb⟩
theorem EoM.new (h:EoM I w J W) {g:Nat} (hg:W.grownBy W' (some g)) (hJ:J g=none) (hgt:w.heap.size<g):EoM I w J W':=
 ⟨⟨h.mt.ok.grown hg (fun k q=>by injection q with q;subst q;exact hJ),h.mt.keep,h.mt.bel.grown hg h.mt.size (fun k q=>by injection q with q;omega)⟩,h.ex,h.fr,Xaf h.res hg (fun q=>by injection q with q;omega)⟩
theorem EoM.start (h:Ok I w):EoM I w I (w.alloc (.cells zeroRow 26)):=⟨(MAt.start h).past _,Ext.refl _ _,h.fresh (Qn _),heap_alloc_new w _⟩
end
theorem Xk3 {s:Bytes} {z:Int} (h:rdEnt s 0= .error z):(z != 0)=true:=by
 rw [Xt1] at h
 cases h0:rdE0 s with
 |error y=>
  rw [h0,Rb_err] at h
  injection h with h
  subst h
  exact ((Xxg s).2 _ h0).2
 |ok p=>
  rw [h0,Rb_ok] at h
  unfold entEnd at h
  split at h
  ·rename_i q
   injection h with h
   subst h
   simpa using q
  ·cases h
abbrev eaL (E:Value) (g:Nat) (c:Bytes) (z k:Int) (bk:Bool) (x:Unit):List (Option Tmp × Value):=
 [(some 30,E),(some 31,S c),(some 32,.bool false),(some 33,.bool false),(some 34,undef),(some 35,undef),(some 36,undef),(some 37,undef),(some 38,undef),(some 39,undef),(some 40,undef),(some 41,undef),(some 42,.bool false),(none,undef),(some 5,.bool false)]
theorem Xa5 {E:Value} {g:Nat} {c:Bytes} {z k:Int} {bk:Bool} {x:Unit}:ApartF (eaL E g c z k bk x):=by
 unfold ApartF
 simp
abbrev ebL (E:Value) (g:Nat) (c:Bytes) (z k:Int) (bk:Bool) (x:Unit):List (Option Tmp × Value):=
 [(some 30,E),(some 31,S c),(some 32,.bool true),(some 33,.bool true),(some 34,.pointer (some ⟨g,0,none⟩)),(some 35,.int .i64 k),(some 36,.bool true),(some 37,.bool true),(some 38,undef),(some 39,undef),(some 40,undef),(some 41,.bool true),(some 42,.bool true),(none,undef),(some 5,.bool true)]
theorem Xcr {E:Value} {g:Nat} {c:Bytes} {z k:Int} {bk:Bool} {x:Unit}:ApartF (ebL E g c z k bk x):=by
 unfold ApartF
 simp
abbrev ecL (E:Value) (g:Nat) (c:Bytes) (z k:Int) (bk:Bool) (x:Unit):List (Option Tmp × Value):=
 [(some 30,E),(some 31,S c),(some 32,.bool true),(some 33,.bool true),(some 34,.pointer (some ⟨g,0,none⟩)),(some 35,.int .i64 k),(some 36,.bool false),(some 37,.bool false),(some 38,.pointer (some ⟨g,0,none⟩)),(some 39,.int .i64 k),(some 40,.bool bk),(some 41,.bool bk),(some 42,.bool bk),(none,undef),(some 5,.bool bk)]
theorem Xfm {E:Value} {g:Nat} {c:Bytes} {z k:Int} {bk:Bool} {x:Unit}:ApartF (ecL E g c z k bk x):=by
 unfold ApartF
 simp
abbrev edL (E:Value) (g:Nat) (c:Bytes) (z k:Int) (bk:Bool) (x:Unit):List (Option Tmp × Value):=
 [(some 80,E),(some 81,.int .i64 z),(some 82,.bool true),(some 83,.bool true),(some 84,.pointer (some ⟨g,0,none⟩)),(some 85,.int .i64 k),(some 86,.bool bk),(some 87,.bool bk),(none,undef),(some 5,.bool bk)]
theorem Xfl {E:Value} {g:Nat} {c:Bytes} {z k:Int} {bk:Bool} {x:Unit}:ApartF (edL E g c z k bk x):=by
 unfold ApartF
 simp
abbrev eeL (E:Value) (g:Nat) (c:Bytes) (z k:Int) (bk:Bool) (x:Unit):List (Option Tmp × Value):=
 [(some 80,E),(some 81,.int .i64 z),(some 82,.bool false),(some 83,.bool false),(some 84,undef),(some 85,undef),(some 86,undef),(some 87,.bool false),(none,undef),(some 5,.bool false)]
theorem Xcq {E:Value} {g:Nat} {c:Bytes} {z k:Int} {bk:Bool} {x:Unit}:ApartF (eeL E g c z k bk x):=by
 unfold ApartF
 simp
set_option maxRecDepth 100000 in
set_option maxHeartbeats 4000000 in
theorem Xqb (I:IH) (hI:Glob I) (h c:Bytes) (hh:h.length≤100000000) (hc:c.length≤100000000) (w:World) (hw:Ok I w):
 Calls Tryz.prog 53 #[S h,S c] w (RetEn I w (entOf h c)):=by
 have Hn0:=Qh (fun w hw=>(show Calls Tryz.prog 41 #[.int .i64 0] w (fun e w'=>e= .returned (S (numP 0))∧Below w.heap.size w w') from Xc7 I hI 0 (by decide) w hw))
 have Hn1:=Qh (fun w hw=>(show Calls Tryz.prog 41 #[.int .i64 1] w (fun e w'=>e= .returned (S (numP 1))∧Below w.heap.size w w') from Xc7 I hI 1 (by decide) w hw))
 have Hs1:=Qh (fun w hw=>Xc6 I hI h (by omega) w hw)
 have Hs0:=Qh (fun w hw=>(show Calls Tryz.prog 62 #[.string ⟨#[]⟩] w (fun e w'=>e= .returned (S (netP []))∧Below w.heap.size w w') from Xc6 I hI [] (by decide) w hw))
 have Hnc:=Qh (fun w hw=>Xc7 I hI c.length (by omega) w hw)
 have Hsu:=Qh (fun b w hc' hb=>Xqv b c (by omega) w hc' hb)
 have h32:=Xxy c
 have Hsd:=Qh (fun w hw=>Xc6 I hI (sumP c) (by omega) w hw)
 have l1:=Xal h hh
 have l0:(numP 0).length≤17:=Xbd 0 (by decide)
 have l11:(numP 1).length≤17:=Xbd 1 (by decide)
 have le:=Xal [] (by decide)
 have lc:=Xbd c.length (by omega)
 have ld:=Xal (sumP c) (by omega)
 have hi7:(Tryz.prog.info? 26).map (·.size)=some 7:=by kernel_rfl
 have HN:=Qh (show ((netP h++numP 0)++netP [])++numP 0=noneT h by simp [noneT,entT,xtP])
 have HF:=Qh (show ((netP h++numP c.length)++netP (sumP c))++(if c= [] then numP 0 else ((numP 1++numP 0)++numP 0)++numP c.length)=fileT 0 h c by
  by_cases hc0:c= []
  ·simp [fileT,fileX,entT,xtP,hc0]
  ·simp [fileT,fileX,entT,xtP,hc0])
 have Hd1:=Qh (fun w hw=>Xlz I hI (noneT h) (by rw [←HN.out];simp only [List.length_append];simp at le;omega) w hw)
 have Hd2:=Qh (fun (w:World) hw=>Xlz I hI (fileT 0 h c) (by
  rw [←HF.out,List.length_append,List.length_append,List.length_append]
  split
  ·omega
  ·rw [List.length_append,List.length_append,List.length_append];omega) w hw)
 obtain ⟨P,hP⟩:∃P,entOf h c=P:=⟨_,rfl⟩
 rw [hP]
 rw [Xwi] at hP
 generalize noneT h=tn at*
 generalize fileT 0 h c=tf at*
 have Hb1:=Qh (fun z=>Xk3 (s:=tn) (z:=z))
 have Hb2:=Qh (fun z=>Xk3 (s:=tf) (z:=z))
 generalize rdEnt tn 0=R1 at hP Hd1 Hb1
 generalize rdEnt tf 0=R2 at hP Hd2 Hb2
 have HP1:=Qh hP
 clear hP
 generalize netP h=p1 at*
 generalize numP 0=p0 at*
 generalize numP 1=p11 at*
 generalize netP []=pe at*
 generalize numP (c.length:Int)=pc at*
 generalize netP (sumP c)=pd at*
 generalize sumP c=dg at*
 simp only [List.length_nil] at le
 have d1:¬9223372036854775807<p1.length+p0.length:=by omega
 have d2:¬9223372036854775807<(p1++p0).length+pe.length:=by rw [List.length_append];omega
 have d3:¬9223372036854775807<(p1++p0++pe).length+p0.length:=by rw [List.length_append,List.length_append];omega
 obtain ⟨v1,hv1⟩:∃v,p1++p0=v:=⟨_,rfl⟩
 rw [hv1] at d2 d3 HN
 obtain ⟨v2,hv2⟩:∃v,v1++pe=v:=⟨_,rfl⟩
 rw [hv2] at d3 HN
 have f1:¬9223372036854775807<p1.length+pc.length:=by omega
 have f2:¬9223372036854775807<(p1++pc).length+pd.length:=by rw [List.length_append];omega
 have f3:(p1++pc++pd).length≤100000200:=by rw [List.length_append,List.length_append];omega
 obtain ⟨u1,hu1⟩:∃v,p1++pc=v:=⟨_,rfl⟩
 rw [hu1] at f2 f3 HF
 obtain ⟨u2,hu2⟩:∃v,u1++pd=v:=⟨_,rfl⟩
 rw [hu2] at f3 HF
 have M0:=Qh (EoM.start hw)
 go_enter Tryz.func53,Tryz.ntmps53
 go_wp2_with fail
 refine (Hs1.out _ M0.out.mt.ok).mono ?_
 rintro e1 w1 ⟨rfl,hb1⟩
 have M1:=Qh (M0.out.thru hb1)
 clear hb1 M0
 go_wp2_with fail
 refine (Hn0.out _ M1.out.mt.ok).mono ?_
 rintro e2 w2 ⟨rfl,hb2⟩
 have M2:=Qh (M1.out.thru hb2)
 clear hb2 M1
 go_wp2_with fail
 refine (Hs0.out _ M2.out.mt.ok).mono ?_
 rintro e3 w3 ⟨rfl,hb3⟩
 have M3:=Qh (M2.out.thru hb3)
 clear hb3 M2
 go_wp2_with fail
 refine (Hn0.out _ M3.out.mt.ok).mono ?_
 rintro e4 w4 ⟨rfl,hb4⟩
 have M4:=Qh (M3.out.thru hb4)
 clear hb4 M3
 go_wp2_with fail
 rw [HN.out]
 refine (Hd1.out _ M4.out.mt.ok).mono ?_
 intro e5 w5 hd
 cases R1 with
 |ok p=>
  obtain ⟨p,bb⟩:=p
  obtain ⟨va,vx,J,rfl,hva,hvx,hx,hok,hb⟩:=hd
  obtain ⟨xa,ca,rfl,_,_,_⟩:=id hva
  obtain ⟨xx,cx,rfl,_,_,_⟩:=id hvx
  have VA:=Qh hva
  have VX:=Qh hvx
  have k5:=Qh ((M4.out.ext hb hx hok).past (.cells zeroRow 26))
  have hJn:=hok.fresh (Qn _)
  have hgt5:=(M4.out.thru hb).lt
  have H5:=Qh (heap_alloc_new w5 (.cells zeroRow 26))
  clear hva hvx hx hok hb M4
  go_wp2_with (refine Xai rfl rfl 26 _ _ rfl w5.heap.size 0 (entRow p (.slice xa p.attrs.length ca) (.slice xx p.exts.length cx)).toList (entV p (.slice xa p.attrs.length ca) (.slice xx p.exts.length cx)) (by simp [Act.eval,Act.put]) (by simp [Act.eval,Act.put]) (by rfl) zeroRow 26 H5.out (by simp) hi7 (by simp [Value.oneCell']) (entRow p (.slice xa p.attrs.length ca) (.slice xx p.exts.length cx)) (by rfl) ?_
               intro w6 hg6 hr6
               have Q:=Qh (k5.out.new hg6 hJn hgt5)
               obtain ⟨y0,y1,y2,y3,y4,y5,y6⟩:=ent_row hr6)
  have HPk:=Qh (show P=(p,c.isEmpty&&(p.kind==2 || p.kind==3)) from HP1.out.symm)
  have q3:((0:Int)==0)=true:=rfl
  by_cases hc0:c= []
  ·subst hc0
   have q1:(([]:Bytes)== [])=true:=rfl
   by_cases hk2:p.kind=2
   ·have q2:(p.kind==2)=true:=by simpa using hk2
    have q4:(p.kind==2)=true:=q2
    have HP:=Qh (show P=(p,true) by rw [HPk.out,q2];rfl)
    clear hk2 HPk HP1
    go_wp2_with fail
    refine Xaj (X:=Unit) (ebL (entV p (.slice xa p.attrs.length ca) (.slice xx p.exts.length cx)) w5.heap.size ([]) 0 p.kind true) (RgE w6 226 236 227 237 228 238 229 239 (fun _ _=>True) (fun _ _=>True) (fun _ _=>True) (fun _ _=>True) (fun _ _=>True) (fun _ _=>True) (fun x=>w.heap.size) 26 13 216 217 (fun x=>entRow p (.slice xa p.attrs.length ca) (.slice xx p.exts.length cx)) (fun x=>entRow p (.slice xa p.attrs.length ca) (.slice xx p.exts.length cx)) (fun x=>entRow p (.slice xa p.attrs.length ca) (.slice xx p.exts.length cx))) (by kernel_rfl) (by kernel_rfl) ?_ ?_ ?_
    ·exact ⟨(),RgE.start _ _ trivial⟩
    ·rintro x s' a' w' i hsz hcl ha hC hi
     obtain ⟨hun,oi,hoi,hall⟩:=mem_ready.1 hi
     have ev:=Xgk Xcr ha
     have hlt:=Xjp hun
     rcases i with _|_|_|_|_|_|_|_|_|_|_|_|_|_|_|i
     rotate_left 15
     ·simp at hoi
     all_goals
      have hoj:=hoi
      simp at hoi
      subst hoi
      simp [Region.binds] at hall
      try have hl:=Xd0 6 13 hcl (by decide +kernel) hun
      try have hbw:=hC.off hl
      have y0:=hC.cell y0 (by show w.heap.size≠w5.heap.size;omega)
      have y1:=hC.cell y1 (by show w.heap.size≠w5.heap.size;omega)
      have y2:=hC.cell y2 (by show w.heap.size≠w5.heap.size;omega)
      have y3:=hC.cell y3 (by show w.heap.size≠w5.heap.size;omega)
      have y4:=hC.cell y4 (by show w.heap.size≠w5.heap.size;omega)
      have y5:=hC.cell y5 (by show w.heap.size≠w5.heap.size;omega)
      have y6:=hC.cell y6 (by show w.heap.size≠w5.heap.size;omega)
      refine wpOp_step hoj (fun K' hK=> ?_)
      first|rw [if_pos (by rfl)]|rw [if_pos (by unfold Region.wanted;dsimp only;rw [Xa0 (j:=3) (t:=33) (b:=true) (by rfl) (by simp [ev,evF,hall])];rfl)]|skip
     rotate_left 8
     ·rw [if_neg (by unfold Region.wanted;dsimp only;rw [Xa0 (j:=7) (t:=37) (b:=true) (by rfl) (by simp [ev,evF,hall])];decide)]
      exact hK _ _ ⟨x,Xam Xcr ha rfl hun,hC.pure (by decide)⟩
     ·rw [if_neg (by unfold Region.wanted;dsimp only;rw [Xa0 (j:=7) (t:=37) (b:=true) (by rfl) (by simp [ev,evF,hall])];decide)]
      exact hK _ _ ⟨x,Xam Xcr ha rfl hun,hC.pure (by decide)⟩
     ·rw [if_neg (by unfold Region.wanted;dsimp only;rw [Xa0 (j:=7) (t:=37) (b:=true) (by rfl) (by simp [ev,evF,hall])];decide)]
      exact hK _ _ ⟨x,Xam Xcr ha rfl hun,hC.pure (by decide)⟩
     rotate_left 2
     ·have hrow:w'.heap[w.heap.size]? =some (.cells _ 26 (0,0)):=(hbw.block _ (Array.getElem?_eq_some_iff.1 Q.out.res).1).trans Q.out.res
      refine Xa2 26 _ _ rfl (w.heap.size) 0 (entRow p (.slice xa p.attrs.length ca) (.slice xx p.exts.length cx)).toList (entV p (.slice xa p.attrs.length ca) (.slice xx p.exts.length cx)) (by simp [Act.eval,ev,evF,hall]) (by simp [Act.eval,ev,evF,hall]) (by rfl) _ _ hrow (by simp) (by kernel_rfl) (by simp [Value.oneCell']) ?_
      exact hK _ _ ⟨x,Xak (d:=none) (v:=undef) Xcr ha rfl hun,hC.put1 hun trivial (Xbr (by simp [hsz])) (Xbr (by simp [hsz])) (by decide) hrow (by rfl)⟩
     all_goals
      unfold Oper.wp
      first
      |(simp [go_sem,ev,evF,hall,Oper.upon,y0,y1,y2,y3,y4,y5,y6,q1,q2,q3,q4];exact hK _ _ ⟨x,Xam Xcr ha rfl hun,hC.pure (by decide)⟩)
      |(simp [go_sem,ev,evF,Oper.upon,y0,y1,y2,y3,y4,y5,y6,q1,q2,q3,q4];exact hK _ _ ⟨x,Xam Xcr ha rfl hun,hC.pure (by decide)⟩)
    ·rintro x s' a' wE hup ha hC
     obtain ⟨wb,hbW,hFin,hgr,hrow⟩:=hC.on (hup 13 (by decide))
     simp only [ite_self] at hrow
     rw [Xbe _ _ _ _ (fun i hi=>by rw [Nat.zero_add];exact hup i (by simpa using hi))] at ha
     subst ha
     simp only [fillAll,Act.put,List.setIfInBounds_toArray,List.set_cons_succ,List.set_cons_zero]
     have hbE:=(Q.out.mt.bel.trans (hbW.mono Q.out.mt.size)).grown hgr (Nat.le_trans Q.out.mt.size hbW.size) (fun g q=>by injection q with q;omega)
     have hok:=(Q.out.mt.ok.below (Qn _) hbW).grown hgr (fun g q=>by injection q with q;subst q;exact Q.out.fr)
     clear hC hup
     go_wp2
     refine bodyPost_ret (Xcc rfl _ _ _ rfl hrow rfl Tryz.underlying26 hi7) rfl ?_
     rw [HP.out]
     exact ⟨_,_,J,rfl,VA.out,VX.out,Q.out.ex,hok,hbE⟩
   ·have q2:(p.kind==2)=false:=by simpa using hk2
    obtain ⟨bk,q4⟩:∃bk,(p.kind==3)=bk:=⟨_,rfl⟩
    have HP:=Qh (show P=(p,bk) by rw [HPk.out,q2,q4];rfl)
    clear hk2 HPk HP1
    go_wp2_with fail
    refine Xaj (X:=Unit) (ecL (entV p (.slice xa p.attrs.length ca) (.slice xx p.exts.length cx)) w5.heap.size ([]) 0 p.kind bk) (RgE w6 226 236 227 237 228 238 229 239 (fun _ _=>True) (fun _ _=>True) (fun _ _=>True) (fun _ _=>True) (fun _ _=>True) (fun _ _=>True) (fun x=>w.heap.size) 26 13 216 217 (fun x=>entRow p (.slice xa p.attrs.length ca) (.slice xx p.exts.length cx)) (fun x=>entRow p (.slice xa p.attrs.length ca) (.slice xx p.exts.length cx)) (fun x=>entRow p (.slice xa p.attrs.length ca) (.slice xx p.exts.length cx))) (by kernel_rfl) (by kernel_rfl) ?_ ?_ ?_
    ·exact ⟨(),RgE.start _ _ trivial⟩
    ·rintro x s' a' w' i hsz hcl ha hC hi
     obtain ⟨hun,oi,hoi,hall⟩:=mem_ready.1 hi
     have ev:=Xgk Xfm ha
     have hlt:=Xjp hun
     rcases i with _|_|_|_|_|_|_|_|_|_|_|_|_|_|_|i
     rotate_left 15
     ·simp at hoi
     all_goals
      have hoj:=hoi
      simp at hoi
      subst hoi
      simp [Region.binds] at hall
      try have hl:=Xd0 6 13 hcl (by decide +kernel) hun
      try have hbw:=hC.off hl
      have y0:=hC.cell y0 (by show w.heap.size≠w5.heap.size;omega)
      have y1:=hC.cell y1 (by show w.heap.size≠w5.heap.size;omega)
      have y2:=hC.cell y2 (by show w.heap.size≠w5.heap.size;omega)
      have y3:=hC.cell y3 (by show w.heap.size≠w5.heap.size;omega)
      have y4:=hC.cell y4 (by show w.heap.size≠w5.heap.size;omega)
      have y5:=hC.cell y5 (by show w.heap.size≠w5.heap.size;omega)
      have y6:=hC.cell y6 (by show w.heap.size≠w5.heap.size;omega)
      refine wpOp_step hoj (fun K' hK=> ?_)
      first|rw [if_pos (by rfl)]|rw [if_pos (by unfold Region.wanted;dsimp only;rw [Xa0 (j:=3) (t:=33) (b:=true) (by rfl) (by simp [ev,evF,hall])];rfl)]|rw [if_pos (by unfold Region.wanted;dsimp only;rw [Xa0 (j:=7) (t:=37) (b:=false) (by rfl) (by simp [ev,evF,hall])];rfl)]
     rotate_left 13
     ·have hrow:w'.heap[w.heap.size]? =some (.cells _ 26 (0,0)):=(hbw.block _ (Array.getElem?_eq_some_iff.1 Q.out.res).1).trans Q.out.res
      refine Xa2 26 _ _ rfl (w.heap.size) 0 (entRow p (.slice xa p.attrs.length ca) (.slice xx p.exts.length cx)).toList (entV p (.slice xa p.attrs.length ca) (.slice xx p.exts.length cx)) (by simp [Act.eval,ev,evF,hall]) (by simp [Act.eval,ev,evF,hall]) (by rfl) _ _ hrow (by simp) (by kernel_rfl) (by simp [Value.oneCell']) ?_
      exact hK _ _ ⟨x,Xak (d:=none) (v:=undef) Xfm ha rfl hun,hC.put1 hun trivial (Xbr (by simp [hsz])) (Xbr (by simp [hsz])) (by decide) hrow (by rfl)⟩
     all_goals
      unfold Oper.wp
      first
      |(simp [go_sem,ev,evF,hall,Oper.upon,y0,y1,y2,y3,y4,y5,y6,q1,q2,q3,q4];exact hK _ _ ⟨x,Xam Xfm ha rfl hun,hC.pure (by decide)⟩)
      |(simp [go_sem,ev,evF,Oper.upon,y0,y1,y2,y3,y4,y5,y6,q1,q2,q3,q4];exact hK _ _ ⟨x,Xam Xfm ha rfl hun,hC.pure (by decide)⟩)
    ·rintro x s' a' wE hup ha hC
     obtain ⟨wb,hbW,hFin,hgr,hrow⟩:=hC.on (hup 13 (by decide))
     simp only [ite_self] at hrow
     rw [Xbe _ _ _ _ (fun i hi=>by rw [Nat.zero_add];exact hup i (by simpa using hi))] at ha
     subst ha
     simp only [fillAll,Act.put,List.setIfInBounds_toArray,List.set_cons_succ,List.set_cons_zero]
     have hbE:=(Q.out.mt.bel.trans (hbW.mono Q.out.mt.size)).grown hgr (Nat.le_trans Q.out.mt.size hbW.size) (fun g q=>by injection q with q;omega)
     have hok:=(Q.out.mt.ok.below (Qn _) hbW).grown hgr (fun g q=>by injection q with q;subst q;exact Q.out.fr)
     clear hC hup
     go_wp2
     refine bodyPost_ret (Xcc rfl _ _ _ rfl hrow rfl Tryz.underlying26 hi7) rfl ?_
     rw [HP.out]
     exact ⟨_,_,J,rfl,VA.out,VX.out,Q.out.ex,hok,hbE⟩
  ·have q1:(c== [])=false:=by simpa using hc0
   have q2:c.isEmpty=false:=by rw [←Bool.not_eq_true,List.isEmpty_iff];exact hc0
   have q4:c.isEmpty=false:=q2
   have HP:=Qh (show P=(p,false) by rw [HPk.out,q2];rfl)
   clear hc0 HPk HP1
   go_wp2_with fail
   refine Xaj (X:=Unit) (eaL (entV p (.slice xa p.attrs.length ca) (.slice xx p.exts.length cx)) w5.heap.size c 0 p.kind false) (RgE w6 226 236 227 237 228 238 229 239 (fun _ _=>True) (fun _ _=>True) (fun _ _=>True) (fun _ _=>True) (fun _ _=>True) (fun _ _=>True) (fun x=>w.heap.size) 26 13 216 217 (fun x=>entRow p (.slice xa p.attrs.length ca) (.slice xx p.exts.length cx)) (fun x=>entRow p (.slice xa p.attrs.length ca) (.slice xx p.exts.length cx)) (fun x=>entRow p (.slice xa p.attrs.length ca) (.slice xx p.exts.length cx))) (by kernel_rfl) (by kernel_rfl) ?_ ?_ ?_
   ·exact ⟨(),RgE.start _ _ trivial⟩
   ·rintro x s' a' w' i hsz hcl ha hC hi
    obtain ⟨hun,oi,hoi,hall⟩:=mem_ready.1 hi
    have ev:=Xgk Xa5 ha
    have hlt:=Xjp hun
    rcases i with _|_|_|_|_|_|_|_|_|_|_|_|_|_|_|i
    rotate_left 15
    ·simp at hoi
    all_goals
     have hoj:=hoi
     simp at hoi
     subst hoi
     simp [Region.binds] at hall
     try have hl:=Xd0 6 13 hcl (by decide +kernel) hun
     try have hbw:=hC.off hl
     have y0:=hC.cell y0 (by show w.heap.size≠w5.heap.size;omega)
     have y1:=hC.cell y1 (by show w.heap.size≠w5.heap.size;omega)
     have y2:=hC.cell y2 (by show w.heap.size≠w5.heap.size;omega)
     have y3:=hC.cell y3 (by show w.heap.size≠w5.heap.size;omega)
     have y4:=hC.cell y4 (by show w.heap.size≠w5.heap.size;omega)
     have y5:=hC.cell y5 (by show w.heap.size≠w5.heap.size;omega)
     have y6:=hC.cell y6 (by show w.heap.size≠w5.heap.size;omega)
     refine wpOp_step hoj (fun K' hK=> ?_)
     first|rw [if_pos (by rfl)]|skip
    rotate_left 4
    ·rw [if_neg (by unfold Region.wanted;dsimp only;rw [Xa0 (j:=3) (t:=33) (b:=false) (by rfl) (by simp [ev,evF,hall])];decide)]
     exact hK _ _ ⟨x,Xam Xa5 ha rfl hun,hC.pure (by decide)⟩
    ·rw [if_neg (by unfold Region.wanted;dsimp only;rw [Xa0 (j:=3) (t:=33) (b:=false) (by rfl) (by simp [ev,evF,hall])];decide)]
     exact hK _ _ ⟨x,Xam Xa5 ha rfl hun,hC.pure (by decide)⟩
    ·rw [if_neg (by unfold Region.wanted;dsimp only;rw [Xa0 (j:=3) (t:=33) (b:=false) (by rfl) (by simp [ev,evF,hall])];decide)]
     exact hK _ _ ⟨x,Xam Xa5 ha rfl hun,hC.pure (by decide)⟩
    ·rw [if_neg (by unfold Region.wanted;dsimp only;rw [Xa0 (j:=3) (t:=33) (b:=false) (by rfl) (by simp [ev,evF,hall])];decide)]
     exact hK _ _ ⟨x,Xam Xa5 ha rfl hun,hC.pure (by decide)⟩
    ·rw [if_neg (by unfold Region.wanted;dsimp only;rw [Xft (j:=7) (t:=37) (by rfl) (by simp [ev,evF,hall])];decide)]
     exact hK _ _ ⟨x,Xam Xa5 ha rfl hun,hC.pure (by decide)⟩
    ·rw [if_neg (by unfold Region.wanted;dsimp only;rw [Xft (j:=7) (t:=37) (by rfl) (by simp [ev,evF,hall])];decide)]
     exact hK _ _ ⟨x,Xam Xa5 ha rfl hun,hC.pure (by decide)⟩
    ·rw [if_neg (by unfold Region.wanted;dsimp only;rw [Xft (j:=7) (t:=37) (by rfl) (by simp [ev,evF,hall])];decide)]
     exact hK _ _ ⟨x,Xam Xa5 ha rfl hun,hC.pure (by decide)⟩
    ·rw [if_neg (by unfold Region.wanted;dsimp only;rw [Xa0 (j:=3) (t:=33) (b:=false) (by rfl) (by simp [ev,evF,hall])];decide)]
     exact hK _ _ ⟨x,Xam Xa5 ha rfl hun,hC.pure (by decide)⟩
    rotate_left 1
    ·have hrow:w'.heap[w.heap.size]? =some (.cells _ 26 (0,0)):=(hbw.block _ (Array.getElem?_eq_some_iff.1 Q.out.res).1).trans Q.out.res
     refine Xa2 26 _ _ rfl (w.heap.size) 0 (entRow p (.slice xa p.attrs.length ca) (.slice xx p.exts.length cx)).toList (entV p (.slice xa p.attrs.length ca) (.slice xx p.exts.length cx)) (by simp [Act.eval,ev,evF,hall]) (by simp [Act.eval,ev,evF,hall]) (by rfl) _ _ hrow (by simp) (by kernel_rfl) (by simp [Value.oneCell']) ?_
     exact hK _ _ ⟨x,Xak (d:=none) (v:=undef) Xa5 ha rfl hun,hC.put1 hun trivial (Xbr (by simp [hsz])) (Xbr (by simp [hsz])) (by decide) hrow (by rfl)⟩
    all_goals
     unfold Oper.wp
     first
     |(simp [go_sem,ev,evF,hall,Oper.upon,y0,y1,y2,y3,y4,y5,y6,q1,q2,q3,q4];exact hK _ _ ⟨x,Xam Xa5 ha rfl hun,hC.pure (by decide)⟩)
     |(simp [go_sem,ev,evF,Oper.upon,y0,y1,y2,y3,y4,y5,y6,q1,q2,q3,q4];exact hK _ _ ⟨x,Xam Xa5 ha rfl hun,hC.pure (by decide)⟩)
   ·rintro x s' a' wE hup ha hC
    obtain ⟨wb,hbW,hFin,hgr,hrow⟩:=hC.on (hup 13 (by decide))
    simp only [ite_self] at hrow
    rw [Xbe _ _ _ _ (fun i hi=>by rw [Nat.zero_add];exact hup i (by simpa using hi))] at ha
    subst ha
    simp only [fillAll,Act.put,List.setIfInBounds_toArray,List.set_cons_succ,List.set_cons_zero]
    have hbE:=(Q.out.mt.bel.trans (hbW.mono Q.out.mt.size)).grown hgr (Nat.le_trans Q.out.mt.size hbW.size) (fun g q=>by injection q with q;omega)
    have hok:=(Q.out.mt.ok.below (Qn _) hbW).grown hgr (fun g q=>by injection q with q;subst q;exact Q.out.fr)
    clear hC hup
    go_wp2
    refine bodyPost_ret (Xcc rfl _ _ _ rfl hrow rfl Tryz.underlying26 hi7) rfl ?_
    rw [HP.out]
    exact ⟨_,_,J,rfl,VA.out,VX.out,Q.out.ex,hok,hbE⟩
 |error z=>
  obtain ⟨rfl,hb⟩:=hd
  have hz:(z==0)=false:=by simpa using Hb1.out z rfl
  by_cases h65:65536<c.length
  ·have q1:decide ((65536:Int)<(c.length:Int))=true:=Qt (by omega)
   have HP:=Qh (show P=(zE,false) by rw [←HP1.out,entQ,if_pos h65])
   clear h65 HP1
   have k5:=Qh ((M4.out.thru hb).past (.cells zeroRow 26))
   have hJn:=(M4.out.thru hb).mt.ok.fresh (Qn _)
   have hgt5:=(M4.out.thru hb).lt
   have H5:=Qh (heap_alloc_new w5 (.cells zeroRow 26))
   clear hb M4
   go_wp2_with (first
                |(refine Xai rfl rfl 26 _ _ rfl w5.heap.size 0 zeroRow.toList (.agg zeroRow) (by simp [Act.eval,Act.put]) (by simp [Act.eval,Act.put]) (by rfl) zeroRow 26 H5.out (by simp) hi7 (by simp [Value.oneCell']) zeroRow (by rfl) ?_
                  intro w6 hg6 hr6
                  have M6:=Qh (k5.out.new hg6 hJn hgt5)
                  clear H5)
                |(refine Xai rfl rfl 26 _ _ rfl w.heap.size 0 zeroRow.toList (.agg zeroRow) (by simp [Act.eval,Act.put]) (by simp [Act.eval,Act.put]) (by rfl) zeroRow 26 M6.out.res (by simp) hi7 (by simp [Value.oneCell']) zeroRow (by rfl) ?_
                  intro w7 hg7 hr7))
   go_wp2
   refine bodyPost_ret (Xcc rfl _ _ _ rfl hr7 rfl Tryz.underlying26 hi7) rfl ?_
   rw [HP.out]
   exact ⟨.slice none 0 0,.slice none 0 0,I,rfl,RdS.nil _ _,RdS.nil _ _,Ext.refl _ _,M6.out.mt.ok.grown hg7 (fun g q=>by injection q with q;subst q;exact M6.out.fr),M6.out.mt.bel.grown hg7 M6.out.mt.size (fun g q=>by injection q with q;omega)⟩
  ·have q1:decide ((65536:Int)<(c.length:Int))=false:=Qf (by omega)
   have HP2:=Qh (show P=entS R2 by rw [←HP1.out,entQ,if_neg h65])
   clear HP1
   have k5:=Qh ((M4.out.thru hb).past (.cells zeroRow 26))
   have hJn:=(M4.out.thru hb).mt.ok.fresh (Qn _)
   have hgt5:=(M4.out.thru hb).lt
   have H5:=Qh (heap_alloc_new w5 (.cells zeroRow 26))
   clear hb M4
   go_wp2_with (refine Xai rfl rfl 26 _ _ rfl w5.heap.size 0 zeroRow.toList (.agg zeroRow) (by simp [Act.eval,Act.put]) (by simp [Act.eval,Act.put]) (by rfl) zeroRow 26 H5.out (by simp) hi7 (by simp [Value.oneCell']) zeroRow (by rfl) ?_
                intro w6 hg6 hr6
                have M6:=Qh (k5.out.new hg6 hJn hgt5))
   go_wp2_with fail
   refine (Hs1.out _ M6.out.mt.ok).mono ?_
   rintro e7 w7 ⟨rfl,hb7⟩
   have M7:=Qh (M6.out.thru hb7)
   clear hb7 M6
   go_wp2_with fail
   refine (Hnc.out _ M7.out.mt.ok).mono ?_
   rintro e8 w8 ⟨rfl,hb8⟩
   have M8:=Qh (M7.out.thru hb8)
   clear hb8 M7
   go_wp2_with fail
   refine (Hsu.out w8.heap.size (w8.alloc (.cells #[S c] 9)) (by rw [World.cell?_alloc_new];rfl) (by simp)).mono ?_
   rintro e9 w9 ⟨rfl,hb9⟩
   have M9:=Qh ((M8.out.past (.cells #[S c] 9)).thru hb9)
   clear hb9 M8
   go_wp2_with fail
   refine (Hsd.out _ M9.out.mt.ok).mono ?_
   rintro e10 w10 ⟨rfl,hb10⟩
   have M10:=Qh (M9.out.thru hb10)
   clear hb10 M9
   go_upto_if 59 with fail
   go_cut [10] (fun s10 wx=>s10=S tf∧EoM I w I wx)
   case first=>
    by_cases hc0:c= []
    ·have hfx:=Qh (show u2++p0=tf by have:=HF.out;rwa [if_pos hc0] at this)
     have d4:¬9223372036854775807<u2.length+p0.length:=by omega
     clear HF
     subst hc0
     go_wp2_with fail
     refine (Hn0.out _ M10.out.mt.ok).mono ?_
     rintro e11 w11 ⟨rfl,hb11⟩
     have M11:=Qh (M10.out.thru hb11)
     clear hb11 M10
     go_wp2_with fail
     go_meet
     case rel=>exact ⟨by rw [←hfx.out],M11.out⟩
    ·have hfx:=Qh (show u2++(((p11++p0)++p0)++pc)=tf by have:=HF.out;rwa [if_neg hc0] at this)
     have g1:¬9223372036854775807<p11.length+p0.length:=by omega
     have g2:¬9223372036854775807<(p11++p0).length+p0.length:=by rw [List.length_append];omega
     have g3:¬9223372036854775807<(p11++p0++p0).length+pc.length:=by rw [List.length_append,List.length_append];omega
     have g4:¬9223372036854775807<u2.length+(p11++p0++p0++pc).length:=by rw [List.length_append,List.length_append,List.length_append];omega
     obtain ⟨x1,hx1⟩:∃v,p11++p0=v:=⟨_,rfl⟩
     rw [hx1] at g2 g3 g4 hfx
     obtain ⟨x2,hx2⟩:∃v,x1++p0=v:=⟨_,rfl⟩
     rw [hx2] at g3 g4 hfx
     obtain ⟨x3,hx3⟩:∃v,x2++pc=v:=⟨_,rfl⟩
     rw [hx3] at g4 hfx
     clear HF
     obtain ⟨ca,cr,rfl⟩:∃a r,c=a::r:=by
      cases hcc:c with
      |nil=>exact absurd hcc hc0
      |cons a r=>exact ⟨a,r,rfl⟩
     clear hc0
     go_wp2_with fail
     refine (Hn1.out _ M10.out.mt.ok).mono ?_
     rintro e11 w11 ⟨rfl,hb11⟩
     have M11:=Qh (M10.out.thru hb11)
     clear hb11 M10
     go_wp2_with fail
     refine (Hn0.out _ M11.out.mt.ok).mono ?_
     rintro e12 w12 ⟨rfl,hb12⟩
     have M12:=Qh (M11.out.thru hb12)
     clear hb12 M11
     go_wp2_with fail
     refine (Hn0.out _ M12.out.mt.ok).mono ?_
     rintro e13 w13 ⟨rfl,hb13⟩
     have M13:=Qh (M12.out.thru hb13)
     clear hb13 M12
     go_wp2_with fail
     refine (Hnc.out _ M13.out.mt.ok).mono ?_
     rintro e14 w14 ⟨rfl,hb14⟩
     have M14:=Qh (M13.out.thru hb14)
     clear hb14 M13
     go_wp2_with fail
     go_meet
     case rel=>exact ⟨by rw [←hfx.out],M14.out⟩
   case rest=>
    obtain ⟨rfl,hM⟩:=hcut
    have MA:=Qh hM
    clear hM M10
    go_wp2_with fail
    refine (Hd2.out _ MA.out.mt.ok).mono ?_
    intro eB wB hd
    cases R2 with
    |ok p=>
     obtain ⟨p,bb⟩:=p
     obtain ⟨va,vx,J,rfl,hva,hvx,hx,hok,hb⟩:=hd
     obtain ⟨bk,q2⟩:∃bk,(p.kind==1)=bk:=⟨_,rfl⟩
     have HP:=Qh (show P=(p,bk) by rw [HP2.out,←q2];rfl)
     have q3:((0:Int)==0)=true:=rfl
     have q4:(p.kind==1)=bk:=q2
     clear HP2
     obtain ⟨xa,ca,rfl,_,_,_⟩:=id hva
     obtain ⟨xx,cx,rfl,_,_,_⟩:=id hvx
     have VA:=Qh hva
     have VX:=Qh hvx
     have kB:=Qh ((MA.out.ext hb hx hok).past (.cells zeroRow 26))
     have hJn:=hok.fresh (Qn _)
     have hgtB:=(MA.out.thru hb).lt
     have HB:=Qh (heap_alloc_new wB (.cells zeroRow 26))
     clear hva hvx hx hok hb MA
     go_wp2_with (refine Xai rfl rfl 26 _ _ rfl wB.heap.size 0 (entRow p (.slice xa p.attrs.length ca) (.slice xx p.exts.length cx)).toList (entV p (.slice xa p.attrs.length ca) (.slice xx p.exts.length cx)) (by simp [Act.eval,Act.put]) (by simp [Act.eval,Act.put]) (by rfl) zeroRow 26 HB.out (by simp) hi7 (by simp [Value.oneCell']) (entRow p (.slice xa p.attrs.length ca) (.slice xx p.exts.length cx)) (by rfl) ?_
                  intro wC hgC hrC
                  have Q:=Qh (kB.out.new hgC hJn hgtB)
                  obtain ⟨y0,y1,y2,y3,y4,y5,y6⟩:=ent_row hrC)
     go_wp2_with fail
     refine Xaj (X:=Unit) (edL (entV p (.slice xa p.attrs.length ca) (.slice xx p.exts.length cx)) wB.heap.size c 0 p.kind bk) (RgE wC 221 231 222 232 223 233 224 234 (fun _ _=>True) (fun _ _=>True) (fun _ _=>True) (fun _ _=>True) (fun _ _=>True) (fun _ _=>True) (fun x=>w.heap.size) 26 8 211 212 (fun x=>entRow p (.slice xa p.attrs.length ca) (.slice xx p.exts.length cx)) (fun x=>entRow p (.slice xa p.attrs.length ca) (.slice xx p.exts.length cx)) (fun x=>entRow p (.slice xa p.attrs.length ca) (.slice xx p.exts.length cx))) (by kernel_rfl) (by kernel_rfl) ?_ ?_ ?_
     ·exact ⟨(),RgE.start _ _ trivial⟩
     ·rintro x s' a' w' i hsz hcl ha hC hi
      obtain ⟨hun,oi,hoi,hall⟩:=mem_ready.1 hi
      have ev:=Xgk Xfl ha
      have hlt:=Xjp hun
      rcases i with _|_|_|_|_|_|_|_|_|_|i
      rotate_left 10
      ·simp at hoi
      all_goals
       have hoj:=hoi
       simp at hoi
       subst hoi
       simp [Region.binds] at hall
       try have hl:=Xd0 6 8 hcl (by decide +kernel) hun
       try have hbw:=hC.off hl
       have y0:=hC.cell y0 (by show w.heap.size≠wB.heap.size;omega)
       have y1:=hC.cell y1 (by show w.heap.size≠wB.heap.size;omega)
       have y2:=hC.cell y2 (by show w.heap.size≠wB.heap.size;omega)
       have y3:=hC.cell y3 (by show w.heap.size≠wB.heap.size;omega)
       have y4:=hC.cell y4 (by show w.heap.size≠wB.heap.size;omega)
       have y5:=hC.cell y5 (by show w.heap.size≠wB.heap.size;omega)
       have y6:=hC.cell y6 (by show w.heap.size≠wB.heap.size;omega)
       refine wpOp_step hoj (fun K' hK=> ?_)
       first|rw [if_pos (by rfl)]|rw [if_pos (by unfold Region.wanted;dsimp only;rw [Xa0 (j:=3) (t:=83) (b:=true) (by rfl) (by simp [ev,evF,hall])];rfl)]
      rotate_left 8
      ·have hrow:w'.heap[w.heap.size]? =some (.cells _ 26 (0,0)):=(hbw.block _ (Array.getElem?_eq_some_iff.1 Q.out.res).1).trans Q.out.res
       refine Xa2 26 _ _ rfl (w.heap.size) 0 (entRow p (.slice xa p.attrs.length ca) (.slice xx p.exts.length cx)).toList (entV p (.slice xa p.attrs.length ca) (.slice xx p.exts.length cx)) (by simp [Act.eval,ev,evF,hall]) (by simp [Act.eval,ev,evF,hall]) (by rfl) _ _ hrow (by simp) (by kernel_rfl) (by simp [Value.oneCell']) ?_
       exact hK _ _ ⟨x,Xak (d:=none) (v:=undef) Xfl ha rfl hun,hC.put1 hun trivial (Xbr (by simp [hsz])) (Xbr (by simp [hsz])) (by decide) hrow (by rfl)⟩
      all_goals
       unfold Oper.wp
       first
       |(simp [go_sem,ev,evF,hall,Oper.upon,y0,y1,y2,y3,y4,y5,y6,q1,q2,q3,q4];exact hK _ _ ⟨x,Xam Xfl ha rfl hun,hC.pure (by decide)⟩)
       |(simp [go_sem,ev,evF,Oper.upon,y0,y1,y2,y3,y4,y5,y6,q1,q2,q3,q4];exact hK _ _ ⟨x,Xam Xfl ha rfl hun,hC.pure (by decide)⟩)
     ·rintro x s' a' wE hup ha hC
      obtain ⟨wb,hbW,hFin,hgr,hrow⟩:=hC.on (hup 8 (by decide))
      simp only [ite_self] at hrow
      rw [Xbe _ _ _ _ (fun i hi=>by rw [Nat.zero_add];exact hup i (by simpa using hi))] at ha
      subst ha
      simp only [fillAll,Act.put,List.setIfInBounds_toArray,List.set_cons_succ,List.set_cons_zero]
      have hbE:=(Q.out.mt.bel.trans (hbW.mono Q.out.mt.size)).grown hgr (Nat.le_trans Q.out.mt.size hbW.size) (fun g q=>by injection q with q;omega)
      have hok:=(Q.out.mt.ok.below (Qn _) hbW).grown hgr (fun g q=>by injection q with q;subst q;exact Q.out.fr)
      clear hC hup
      go_wp2
      refine bodyPost_ret (Xcc rfl _ _ _ rfl hrow rfl Tryz.underlying26 hi7) rfl ?_
      rw [HP.out]
      exact ⟨_,_,J,rfl,VA.out,VX.out,Q.out.ex,hok,hbE⟩
    |error z2=>
     obtain ⟨rfl,hb⟩:=hd
     have q2:(z2==0)=false:=by simpa using Hb2.out z2 rfl
     have HP:=Qh (show P=(zE,false) from HP2.out)
     have q3:(z2==0)=false:=q2
     have q4:(z2==0)=false:=q2
     clear HP2
     have kB:=Qh ((MA.out.thru hb).past (.cells zeroRow 26))
     have hJn:=(MA.out.thru hb).mt.ok.fresh (Qn _)
     have hgtB:=(MA.out.thru hb).lt
     have HB:=Qh (heap_alloc_new wB (.cells zeroRow 26))
     clear hb MA
     go_wp2_with (refine Xai rfl rfl 26 _ _ rfl wB.heap.size 0 zeroRow.toList (.agg zeroRow) (by simp [Act.eval,Act.put]) (by simp [Act.eval,Act.put]) (by rfl) zeroRow 26 HB.out (by simp) hi7 (by simp [Value.oneCell']) zeroRow (by rfl) ?_
                  intro wC hgC hrC
                  have MC:=Qh (kB.out.new hgC hJn hgtB))
     have Q:=MC
     obtain ⟨y0,y1,y2,y3,y4,y5,y6⟩:=ent_row (e:=zE) (va:= .slice none 0 0) (vx:= .slice none 0 0) hrC
     have VA:=Qh (RdS.nil tAt I)
     have VX:=Qh (RdS.nil tXt I)
     have hgtC:=hgtB
     go_wp2_with fail
     refine Xaj (X:=Unit) (eeL (entV zE (.slice none 0 0) (.slice none 0 0)) wB.heap.size c z2 0 false) (RgE wC 221 231 222 232 223 233 224 234 (fun _ _=>True) (fun _ _=>True) (fun _ _=>True) (fun _ _=>True) (fun _ _=>True) (fun _ _=>True) (fun x=>w.heap.size) 26 8 211 212 (fun x=>entRow zE (.slice none 0 0) (.slice none 0 0)) (fun x=>entRow zE (.slice none 0 0) (.slice none 0 0)) (fun x=>entRow zE (.slice none 0 0) (.slice none 0 0))) (by kernel_rfl) (by kernel_rfl) ?_ ?_ ?_
     ·exact ⟨(),RgE.start _ _ trivial⟩
     ·rintro x s' a' w' i hsz hcl ha hC hi
      obtain ⟨hun,oi,hoi,hall⟩:=mem_ready.1 hi
      have ev:=Xgk Xcq ha
      have hlt:=Xjp hun
      rcases i with _|_|_|_|_|_|_|_|_|_|i
      rotate_left 10
      ·simp at hoi
      all_goals
       have hoj:=hoi
       simp at hoi
       subst hoi
       simp [Region.binds] at hall
       try have hl:=Xd0 6 8 hcl (by decide +kernel) hun
       try have hbw:=hC.off hl
       have y0:=hC.cell y0 (by show w.heap.size≠wB.heap.size;omega)
       have y1:=hC.cell y1 (by show w.heap.size≠wB.heap.size;omega)
       have y2:=hC.cell y2 (by show w.heap.size≠wB.heap.size;omega)
       have y3:=hC.cell y3 (by show w.heap.size≠wB.heap.size;omega)
       have y4:=hC.cell y4 (by show w.heap.size≠wB.heap.size;omega)
       have y5:=hC.cell y5 (by show w.heap.size≠wB.heap.size;omega)
       have y6:=hC.cell y6 (by show w.heap.size≠wB.heap.size;omega)
       refine wpOp_step hoj (fun K' hK=> ?_)
       first|rw [if_pos (by rfl)]|skip
      rotate_left 4
      ·rw [if_neg (by unfold Region.wanted;dsimp only;rw [Xa0 (j:=3) (t:=83) (b:=false) (by rfl) (by simp [ev,evF,hall])];decide)]
       exact hK _ _ ⟨x,Xam Xcq ha rfl hun,hC.pure (by decide)⟩
      ·rw [if_neg (by unfold Region.wanted;dsimp only;rw [Xa0 (j:=3) (t:=83) (b:=false) (by rfl) (by simp [ev,evF,hall])];decide)]
       exact hK _ _ ⟨x,Xam Xcq ha rfl hun,hC.pure (by decide)⟩
      ·rw [if_neg (by unfold Region.wanted;dsimp only;rw [Xa0 (j:=3) (t:=83) (b:=false) (by rfl) (by simp [ev,evF,hall])];decide)]
       exact hK _ _ ⟨x,Xam Xcq ha rfl hun,hC.pure (by decide)⟩
      rotate_left 1
      ·have hrow:w'.heap[w.heap.size]? =some (.cells _ 26 (0,0)):=(hbw.block _ (Array.getElem?_eq_some_iff.1 Q.out.res).1).trans Q.out.res
       refine Xa2 26 _ _ rfl (w.heap.size) 0 (entRow zE (.slice none 0 0) (.slice none 0 0)).toList (entV zE (.slice none 0 0) (.slice none 0 0)) (by simp [Act.eval,ev,evF,hall]) (by simp [Act.eval,ev,evF,hall]) (by rfl) _ _ hrow (by simp) (by kernel_rfl) (by simp [Value.oneCell']) ?_
       exact hK _ _ ⟨x,Xak (d:=none) (v:=undef) Xcq ha rfl hun,hC.put1 hun trivial (Xbr (by simp [hsz])) (Xbr (by simp [hsz])) (by decide) hrow (by rfl)⟩
      all_goals
       unfold Oper.wp
       first
       |(simp [go_sem,ev,evF,hall,Oper.upon,y0,y1,y2,y3,y4,y5,y6,q1,q2,q3,q4];exact hK _ _ ⟨x,Xam Xcq ha rfl hun,hC.pure (by decide)⟩)
       |(simp [go_sem,ev,evF,Oper.upon,y0,y1,y2,y3,y4,y5,y6,q1,q2,q3,q4];exact hK _ _ ⟨x,Xam Xcq ha rfl hun,hC.pure (by decide)⟩)
     ·rintro x s' a' wE hup ha hC
      obtain ⟨wb,hbW,hFin,hgr,hrow⟩:=hC.on (hup 8 (by decide))
      simp only [ite_self] at hrow
      rw [Xbe _ _ _ _ (fun i hi=>by rw [Nat.zero_add];exact hup i (by simpa using hi))] at ha
      subst ha
      simp only [fillAll,Act.put,List.setIfInBounds_toArray,List.set_cons_succ,List.set_cons_zero]
      have hbE:=(Q.out.mt.bel.trans (hbW.mono Q.out.mt.size)).grown hgr (Nat.le_trans Q.out.mt.size hbW.size) (fun g q=>by injection q with q;omega)
      have hok:=(Q.out.mt.ok.below (Qn _) hbW).grown hgr (fun g q=>by injection q with q;subst q;exact Q.out.fr)
      clear hC hup
      go_wp2
      refine bodyPost_ret (Xcc rfl _ _ _ rfl hrow rfl Tryz.underlying26 hi7) rfl ?_
      rw [HP.out]
      exact ⟨_,_,I,rfl,VA.out,VX.out,Q.out.ex,hok,hbE⟩
end Go.Proofs.YtdodihnehppnmaaGreatDoor
