/-
  Walks and laws that the claim's theorem uses: texts SoF RfG QuH QuT QuE QuA, joined; comments out. Conditions: as each theorem says.
-/
import Derived.Test.YtmdfjnhfhidmhaaGreatDoorK38
set_option linter.all false
namespace Go.Proofs.YtmdfjnhfhidmhaaGreatDoor
open Go.RowKit
theorem WrB.ext {J J':IH} {w w':World} {B:Nat} {d:Drf} {ve vk vt vh:Value} (h:WrB J w B d ve vk vt vh) (hb:Below w.heap.size w w') (hx:Ext w.heap.size J J') (hok:Ok J' w'):WrB J' w' B d ve vk vt vh:=
 ⟨hok,(hx _ h.lt).trans h.no,h.rd.mono (fun b c hc=>hx.keep h.ok (Qn _) b c hc),(hb.block _ h.lt).trans h.row⟩
abbrev wqL (d dn:Drf) (ve vk vt vh:Value) (b off n lc k:Nat) (c:Chg) (va:Value) (rn:Int) (x:((Option Addr × Nat) × (Option Addr × Nat) × (Option Addr × Nat) × (Option Addr × Nat)) × Nat):List (Option Tmp × Value):=
 [(some 33,drV d ve vk vt vh),(some 34,.slice (some ⟨b,off,none⟩) n lc),(some 35,.int .i64 (k:Int)),(some 36,.pointer (some ⟨b,off+k*5,none⟩)),(some 37,chgV c va),(some 38,.tuple #[drV dn (.slice x.1.1.1 dn.ents.length x.1.1.2) (.slice x.1.2.1.1 dn.sto.cks.length x.1.2.1.2) (.slice x.1.2.2.1.1 dn.tree.length x.1.2.2.1.2) (.slice x.1.2.2.2.1 dn.holds.length x.1.2.2.2.2),.int .i64 rn]),(some 32,.tuple #[drV dn (.slice x.1.1.1 dn.ents.length x.1.1.2) (.slice x.1.2.1.1 dn.sto.cks.length x.1.2.1.2) (.slice x.1.2.2.1.1 dn.tree.length x.1.2.2.1.2) (.slice x.1.2.2.2.1 dn.holds.length x.1.2.2.2.2),.int .i64 rn]),(some 39,drV dn (.slice x.1.1.1 dn.ents.length x.1.1.2) (.slice x.1.2.1.1 dn.sto.cks.length x.1.2.1.2) (.slice x.1.2.2.1.1 dn.tree.length x.1.2.2.1.2) (.slice x.1.2.2.2.1 dn.holds.length x.1.2.2.2.2)),(some 40,.int .i64 rn),(some 12,.pointer (some ⟨x.2,0,none⟩)),(none,undef),(some 13,.int .i64 rn)]
abbrev wsL (ai dt sp:Int) (so:Option Addr) (sc:Nat) (L L2:List Ses) (d:Drf) (ve vk vt vh:Value) (x:(Option Addr × Nat) × (Option Addr × Nat) × Nat):List (Option Tmp × Value):=
 [(some 48,arcV ai dt sp (.slice so L.length sc)),(some 49,drV d ve vk vt vh),(some 50,sesV (closeP d) (.slice x.1.1 (closeP d).ents.length x.1.2)),(some 51,.tuple #[arcV ai dt sp (.slice x.2.1.1 L2.length x.2.1.2),.int .i64 0]),(some 47,.tuple #[arcV ai dt sp (.slice x.2.1.1 L2.length x.2.1.2),.int .i64 0]),(some 52,arcV ai dt sp (.slice x.2.1.1 L2.length x.2.1.2)),(some 53,.int .i64 0),(some 14,.pointer (some ⟨x.2.2,0,none⟩)),(none,undef),(some 15,.int .i64 0)]
structure RgF {X:Type} (W:World) (j1 j2 j3 j4:Nat) (G1 G2 G3 G4:X→World→Prop) (x:X) (s:Array Bool) (w:World):Prop where
 off:Below W.heap.size W w
 f1:s.getD j1 false=true→G1 x w
 f2:s.getD j2 false=true→G2 x w
 f3:s.getD j3 false=true→G3 x w
 f4:s.getD j4 false=true→G4 x w
section
variable {X:Type} {W w w':World} {j1 j2 j3 j4:Nat} {G1 G2 G3 G4:X→World→Prop} {x:X} {s:Array Bool} {i:Nat}
end
structure Pt2 (W:World) (m1 m2:Nat) (R1 R2:Array Value) (s:Array Bool) (w:World):Prop where
 eq:w=if s.getD 3 false=true then (({ W with drawn:=W.drawn+1 }:World).setRow m1 R1).setRow m2 R2 else if s.getD 2 false=true then ({ W with drawn:=W.drawn+1 }:World).setRow m1 R1 else { W with drawn:=W.drawn+1 }
section
variable {W w:World} {m1 m2:Nat} {R1 R2:Array Value} {s:Array Bool} {i:Nat}
end
theorem one_row {α:Type} {T:Ty α} {E:TypeId} {J:IH} {W:World} {g:Nat} {cs:List Value} {x:α} (hw:Ok J W) (hg:W.heap[g]? =some (.cells cs.toArray E (0,0))) (hn:J g=none) (hx:T.rd J cs x):
 ∃J',(∀b c,J b=some c→J' b=some c)∧Ext g J J'∧Ok J' W∧(∀b,b≠g→J' b=J b)∧RdS T J' (.slice (some ⟨g,0,none⟩) 1 1) [x]:=by
 have hkeep:∀b c,J b=some c→(J.add g cs.toArray) b=some c:=fun b c hc=>by
  unfold IH.add
  by_cases e:b=g
  ·subst e;rw [hn] at hc;cases hc
  ·rw [if_neg e];exact hc
 refine ⟨J.add g cs.toArray,hkeep,Ext.add (Qn _) J _,hw.add hg,fun b hb=>by simp [IH.add,hb],⟨_,1,rfl,Qn _,by unfold maxLen;omega,fun _=>⟨g,0,cs.toArray,rfl,by simp [IH.add],fun i hi=> ?_⟩⟩⟩
 have h0:i=0:=by simp at hi;omega
 subst h0
 refine ⟨cs,T.mono hkeep hx,fun j u hu=> ?_⟩
 simpa using hu
theorem MAt.own {I J:IH} {w0 W W':World} (h:MAt I w0 J W) {g:Nat} (hg:W.grownBy W' (some g)) (hn:J g=none) (hl:w0.heap.size≤g):MAt I w0 J W':=
 ⟨h.ok.grown hg (fun k e=>by injection e with e;subst e;exact hn),h.keep,h.bel.grown hg h.size (fun k e=>by injection e with e;omega)⟩
def foldD (d:Drf) (l:List Chg):Drf:=l.foldl (fun d c=>(addP d c).1) d
theorem Xm2 (d:Drf) (l:List Chg) {k:Nat} (hk:k<l.length) {c:Chg} (hc:l[k]=c):foldD d (l.take (k+1))=(addP (foldD d (l.take k)) c).1:=by
 unfold foldD
 rw [List.take_succ_eq_append_getElem hk,hc,List.foldl_append]
 rfl
def dftP (date:Int) (l:List Chg):Drf × Bool:=if begErr [] date≠0 then (nilD,false) else (foldD (openP [] date) l,true)
structure ZeR (J:IH) (W:World) (n:Nat) (zr:Array Value) (ty:TypeId):Prop where
 no:J n=none
 row:W.heap[n]? =some (.cells zr ty (0,0))
theorem ZeR.lt {J:IH} {W:World} {n:Nat} {zr:Array Value} {ty:TypeId} (h:ZeR J W n zr ty):n<W.heap.size:=(Array.getElem?_eq_some_iff.1 h.row).1
theorem ZeR.quiet {J:IH} {W W':World} {n:Nat} {zr:Array Value} {ty:TypeId} (h:ZeR J W n zr ty) (hb:Below W.heap.size W W'):ZeR J W' n zr ty:=⟨h.no,(hb.block _ h.lt).trans h.row⟩
theorem ZeR.ext {J J':IH} {W W':World} {n:Nat} {zr:Array Value} {ty:TypeId} (h:ZeR J W n zr ty) (hb:Below W.heap.size W W') (hx:Ext W.heap.size J J'):ZeR J' W' n zr ty:=⟨(hx _ h.lt).trans h.no,(hb.block _ h.lt).trans h.row⟩
theorem ZeR.own {J:IH} {W W':World} {n:Nat} {zr:Array Value} {ty:TypeId} (h:ZeR J W n zr ty) {g:Option Nat} (hg:W.grownBy W' g) (hne:some n≠g):ZeR J W' n zr ty:=⟨h.no,(hg.block _ h.lt hne).trans h.row⟩
def RetDf (I:IH) (w:World) (d:Drf) (b:Bool) (e:Ending) (w':World):Prop:=
 ∃ve vk vt vh J,e= .returned (.tuple #[drV d ve vk vt vh,.bool b])∧Below w.heap.size w w'∧Ext w.heap.size I J∧Ok J w'∧DrRd J d ve vk vt vh
set_option maxRecDepth 100000 in
set_option maxHeartbeats 4000000 in
theorem Xfl (I:IH) (hI:Glob I) (date:Int) (vl:Value) (l:List Chg) (hv:RdS tChg I vl l) (hc:∀c∈l,c.Wf∧c.attrs.length≤1000000) (hl:l.length≤150) (w:World) (hw:Ok I w):
 Calls Tryz.prog 20 #[.int .i64 date,vl] w (RetDf I w (dftP date l).1 (dftP date l).2):=by
 have Hi9:=Qh (show (Tryz.prog.info? 43).map (·.size)=some 9 by kernel_rfl)
 have A0:=Qh ((MAt.start hw).past (.cells zeroD 43))
 have Z0:=Qh (show ZeR I (w.alloc (.cells zeroD 43)) w.heap.size zeroD 43 from ⟨hw.fresh (Qn _),heap_alloc_new _ _⟩)
 have HG:=Qh hI
 have Hc:=Qh hc
 have Hv:=Qh hv
 have hb:=Xk2 I hI 7 1 0 [] Xec (by decide) (by decide) (.slice none 0 0) (RdS.nil _ _) date (w.alloc (.cells zeroD 43)) A0.out.ok
 obtain ⟨dB,eB,hdB⟩:∃dB eB,begP [] date=(dB,eB):=⟨_,_,rfl⟩
 rw [hdB] at hb
 dsimp only at hb
 have HB:=Qh hb
 have HdB:=Qh hdB
 obtain ⟨ao,cap,rfl,_,_,_⟩:=id hv
 clear hI hc hv hb hdB
 go_enter Tryz.func20,Tryz.ntmps20
 go_wp2_with fail
 refine (HB.out).mono ?_
 rintro e1 w1 ⟨ve1,vk1,vt1,vh1,J1,rfl,hb1,hx1,hok1,hrd1⟩
 obtain ⟨ae1,ce1,rfl,_,_,_⟩:=id hrd1.ents
 obtain ⟨ak1,ck1,rfl,_,_,_⟩:=id hrd1.cks
 obtain ⟨at1,ct1,rfl,_,_,_⟩:=id hrd1.tree
 obtain ⟨ah1,ch1,rfl,_,_,_⟩:=id hrd1.holds
 go_upto_region 2 with (
  refine Xab rfl rfl 43 _ _ rfl w1.heap.size 0 (drCs dB (.slice ae1 dB.ents.length ce1) (.slice ak1 dB.sto.cks.length ck1) (.slice at1 dB.tree.length ct1) (.slice ah1 dB.holds.length ch1)) (drV dB (.slice ae1 dB.ents.length ce1) (.slice ak1 dB.sto.cks.length ck1) (.slice at1 dB.tree.length ct1) (.slice ah1 dB.holds.length ch1)) (by simp [Act.eval]) (by simp [Act.eval]) (by rfl) zeroD 43 (heap_alloc_new _ _) (by simp) (by kernel_rfl) (by simp [Value.oneCell']) (drCs dB (.slice ae1 dB.ents.length ce1) (.slice ak1 dB.sto.cks.length ck1) (.slice at1 dB.tree.length ct1) (.slice ah1 dB.holds.length ch1)).toArray (by rfl) ?_
  intro w2 hg2 hr2)
 have hb2:Below w1.heap.size w1 w2:=((Qb _ _).alloc (Qn _) _).grown hg2 (by simp) (fun k e=>by injection e with e;omega)
 have hf1:J1 w1.heap.size=none:=hok1.fresh (Qn _)
 have A2:=Qh ((A0.out.ext hb1 hx1 hok1).quiet hb2)
 have Z2:=Qh ((Z0.out.ext hb1 hx1).quiet hb2)
 have D2:=Qh (show WrB J1 w2 w1.heap.size dB _ _ _ _ from ⟨A2.out.ok,hf1,hrd1,hr2⟩)
 have hs1:=hb1.size
 simp only [World.size_alloc] at hs1
 have E2:=Qh (show Ext w.heap.size I J1 from hx1.mono (by simp))
 clear hb1 hx1 hok1 hrd1 hg2 hr2 hb2 hf1 A0 Z0 HB
 generalize w1.heap.size=B at D2 hs1 ⊢
 by_cases q:begErr [] date=0
 case neg=>
  obtain ⟨e1,e2⟩:=Prod.mk.inj (HdB.out.symm.trans (Xrs q))
  have i1:(eB != 0)=true:=by rw [e2];simpa using q
  have Hn:=Qh (show dftP date l=(dB,false) by rw [dftP,if_pos q,e1])
  clear q HdB e1 e2
  obtain ⟨b0,b1,b2,b3,b4,b5,b6,b7,b8⟩:=drB_row (d:=dB) D2.out.row
  have hZr:=Z2.out.row
  go_wp2_with (refine Xab rfl rfl 43 _ _ rfl w.heap.size 0 (drCs dB (.slice ae1 dB.ents.length ce1) (.slice ak1 dB.sto.cks.length ck1) (.slice at1 dB.tree.length ct1) (.slice ah1 dB.holds.length ch1)) (drV dB (.slice ae1 dB.ents.length ce1) (.slice ak1 dB.sto.cks.length ck1) (.slice at1 dB.tree.length ct1) (.slice ah1 dB.holds.length ch1)) (by simp [Act.eval]) (by simp [Act.eval]) (by rfl) zeroD 43 hZr (by simp) (by kernel_rfl) (by simp [Value.oneCell']) (drCs dB (.slice ae1 dB.ents.length ce1) (.slice ak1 dB.sto.cks.length ck1) (.slice at1 dB.tree.length ct1) (.slice ah1 dB.holds.length ch1)).toArray (by rfl) ?_
               intro w9 hg9 hr9)
  refine bodyPost_ret (v:= .tuple #[drV dB (.slice ae1 dB.ents.length ce1) (.slice ak1 dB.sto.cks.length ck1) (.slice at1 dB.tree.length ct1) (.slice ah1 dB.holds.length ch1),.bool false]) ?_ rfl ?_
  ·rw [results_cell_tmp rfl]
   simp [asAddr,run_loadVar_row w9 w.heap.size 43 43 _ (0,0) _ hr9 Tryz.underlying43 rfl Hi9.out]
  ·rw [Hn.out]
   exact ⟨_,_,_,_,_,rfl,(A2.out.own hg9 Z2.out.no (Qn _)).bel,E2.out,(A2.out.own hg9 Z2.out.no (Qn _)).ok,D2.out.rd⟩
 obtain ⟨e1,rfl⟩:=Prod.mk.inj (HdB.out.symm.trans (Xpp q))
 have He:=Qh e1
 have HdO:=Qh (show DrOk 0 dB by rw [e1];exact Xho Xec (by decide) (by decide) q)
 have Hn:=Qh (show dftP date l=(foldD dB l,true) by rw [dftP,if_neg (by rw [q];decide),e1])
 clear q HdB e1
 obtain ⟨b0,b1,b2,b3,b4,b5,b6,b7,b8⟩:=drB_row (d:=dB) D2.out.row
 go_wp2_with fail
 clear b0 b1 b2 b3 b4 b5 b6 b7 b8
 go_loopw [9,10,11,24] (fun _ _ _ s24 wr=> ∃(k:Nat) (J:IH) (ve vk vt vh:Value),k≤l.length∧s24= .int .i64 k∧MAt I w J wr∧ZeR J wr w.heap.size zeroD 43∧WrB J wr B (foldD dB (l.take k)) ve vk vt vh∧DrOk k (foldD dB (l.take k))∧Ext w.heap.size I J) (fun _ _ _ i _=>l.length-(intOf i).toNat)
 case atStart=>exact ⟨0,J1,_,_,_,_,Nat.zero_le _,rfl,A2.out,Z2.out,D2.out,HdO.out,E2.out⟩
 case round=>
  clear A2 Z2 D2 HdO E2
  obtain ⟨k,J,ve,vk,vt,vh,hk,rfl,hA,hZ,hD,hdO,hE⟩:=hrel
  have A:=Qh hA
  have Z:=Qh hZ
  have D:=Qh hD
  have HdO:=Qh hdO
  have E:=Qh hE
  clear hA hZ hD hdO hE
  obtain ⟨ae,ce,rfl,_,_,_⟩:=id D.out.rd.ents
  obtain ⟨ak,ck,rfl,_,_,_⟩:=id D.out.rd.cks
  obtain ⟨at',ct,rfl,_,_,_⟩:=id D.out.rd.tree
  obtain ⟨ah,ch,rfl,_,_,_⟩:=id D.out.rd.holds
  by_cases hlt:k<l.length
  ·obtain ⟨c,va,b,off,cap',hlc,hvv,⟨c0,c1,c2,c3,c4⟩,hva⟩:=Xun (Hv.out.mono A.out.keep) A.out.ok k hlt
   cases hvv
   have hcm:=Hc.out c (by rw [←hlc];exact List.getElem_mem hlt)
   have Hsn:=Qh (Xm2 dB l hlt hlc)
   obtain ⟨d,hd⟩:∃d,foldD dB (l.take k)=d:=⟨_,rfl⟩
   rw [hd] at D HdO Hsn
   have hdn1:=Xse HdO.out (by omega) hcm.1.content
   have hac:=Xf9 d c
   obtain ⟨oa,ca,rfl,_,_,_⟩:=id hva
   have Aa:=Qh (A.out.past (.cells #[.int .i64 c.kind,S c.path,.slice oa c.attrs.length ca,S c.target,S c.content] 25))
   have Za:=Qh (Z.out.quiet ((Qb _ _).alloc (Qn _) (.cells #[.int .i64 c.kind,S c.path,.slice oa c.attrs.length ca,S c.target,S c.content] 25)))
   have Da:=Qh (D.out.below ((Qb _ _).alloc (Qn _) (.cells #[.int .i64 c.kind,S c.path,.slice oa c.attrs.length ca,S c.target,S c.content] 25)))
   have ha:=Xr9 J (HG.out.mono A.out.keep) d HdO.out (by omega) _ _ _ _ D.out.rd c hcm.1 hcm.2 _ hva _ Aa.out.ok
   obtain ⟨dn,rn,hdn⟩:∃dn rn,addP d c=(dn,rn):=⟨_,_,rfl⟩
   rw [hdn] at ha hdn1 hac Hsn
   dsimp only at ha hdn1 hac Hsn
   have Ha:=Qh ha
   have Hac:=Qh (show rn≠0→dn=d from fun h=>hac.elim (fun q=>q.2) (fun q=>absurd q.1 h))
   have Hdn:=Qh hdn1
   have hsA:=A.out.size
   obtain ⟨b0,b1,b2,b3,b4,b5,b6,b7,b8⟩:=drB_row (d:=d) Da.out.row
   clear hcm hlc hva hdn ha hdn1 hac A Z D HdO
   go_wp2_with fail
   refine (Ha.out).mono ?_
   rintro e5 w5 ⟨ve5,vk5,vt5,vh5,J5,rfl,hb5,hx5,hok5,hrd5⟩
   obtain ⟨ae5,ce5,rfl,_,_,_⟩:=id hrd5.ents
   obtain ⟨ak5,ck5,rfl,_,_,_⟩:=id hrd5.cks
   obtain ⟨at5,ct5,rfl,_,_,_⟩:=id hrd5.tree
   obtain ⟨ah5,ch5,rfl,_,_,_⟩:=id hrd5.holds
   go_upto_region 8 with (
    refine Xab rfl rfl 43 _ _ rfl w5.heap.size 0 (drCs dn (.slice ae5 dn.ents.length ce5) (.slice ak5 dn.sto.cks.length ck5) (.slice at5 dn.tree.length ct5) (.slice ah5 dn.holds.length ch5)) (drV dn (.slice ae5 dn.ents.length ce5) (.slice ak5 dn.sto.cks.length ck5) (.slice at5 dn.tree.length ct5) (.slice ah5 dn.holds.length ch5)) (by simp [Act.eval]) (by simp [Act.eval]) (by rfl) zeroD 43 (heap_alloc_new _ _) (by simp) (by kernel_rfl) (by simp [Value.oneCell']) (drCs dn (.slice ae5 dn.ents.length ce5) (.slice ak5 dn.sto.cks.length ck5) (.slice at5 dn.tree.length ct5) (.slice ah5 dn.holds.length ch5)).toArray (by rfl) ?_
    intro w6 hg6 hr6)
   have hb6:Below w5.heap.size w5 w6:=((Qb _ _).alloc (Qn _) _).grown hg6 (by simp) (fun k e=>by injection e with e;omega)
   have hf5:J5 w5.heap.size=none:=hok5.fresh (Qn _)
   have A6:=Qh ((Aa.out.ext hb5 hx5 hok5).quiet hb6)
   have Z6:=Qh ((Za.out.ext hb5 hx5).quiet hb6)
   have D6:=Qh ((Da.out.ext hb5 hx5 hok5).below hb6)
   have hs5:=hb5.size
   simp only [World.size_alloc] at hs5
   have E6:=Qh (show Ext w.heap.size I J5 from E.out.trans hx5 (by simp;omega))
   have HR:=Qh (show DrRd J5 dn _ _ _ _ from hrd5)
   have hBl:=Da.out.lt
   simp only [World.size_alloc] at hBl
   clear hb5 hx5 hok5 hrd5 hg6 hb6 hf5 Aa Za Da Ha b0 b1 b2 b3 b4 b5 b6 b7 b8 c0 c1 c2 c3 c4
   by_cases h0:rn=0
   ·subst h0
    obtain ⟨b0,b1,b2,b3,b4,b5,b6,b7,b8⟩:=drB_row (d:=dn) hr6
    have hDr:=D6.out.row
    go_wp2_with (refine Xab rfl rfl 43 _ _ rfl B 0 (drCs dn (.slice ae5 dn.ents.length ce5) (.slice ak5 dn.sto.cks.length ck5) (.slice at5 dn.tree.length ct5) (.slice ah5 dn.holds.length ch5)) (drV dn (.slice ae5 dn.ents.length ce5) (.slice ak5 dn.sto.cks.length ck5) (.slice at5 dn.tree.length ct5) (.slice ah5 dn.holds.length ch5)) (by simp [Act.eval]) (by simp [Act.eval]) (by rfl) _ 43 hDr (by simp) (by kernel_rfl) (by simp [Value.oneCell']) (drCs dn (.slice ae5 dn.ents.length ce5) (.slice ak5 dn.sto.cks.length ck5) (.slice at5 dn.tree.length ct5) (.slice ah5 dn.holds.length ch5)).toArray (by rfl) ?_
                 intro w7 hg7 hr7)
    go_roundw
    case rel=>exact ⟨k+1,J5,_,_,_,_,by omega,by go_num,A6.out.own hg7 D6.out.no (by omega),Z6.out.own hg7 (fun e=>by injection e with e;omega),by rw [Hsn.out];exact ⟨(A6.out.own hg7 D6.out.no (by omega)).ok,D6.out.no,HR.out,hr7⟩,by rw [Hsn.out];exact Hdn.out,E6.out⟩
    case measure=>simp [intOf];omega
   ·have i1:(rn==0)=false:=by simpa using h0
    have Hdd:=Qh (Hac.out h0)
    clear h0 hr6
    go_wp2_with fail
    go_roundw
    case rel=>exact ⟨k+1,J5,_,_,_,_,by omega,by go_num,A6.out,Z6.out,by rw [Hsn.out,Hdd.out];exact D6.out,by rw [Hsn.out];exact Hdn.out,E6.out⟩
    case measure=>simp [intOf];omega
  ·have hke:k=l.length:=by omega
   subst hke
   rw [List.take_length] at D
   obtain ⟨d,hd⟩:∃d,foldD dB l=d:=⟨_,rfl⟩
   rw [hd] at D Hn
   clear hd HdO
   obtain ⟨b0,b1,b2,b3,b4,b5,b6,b7,b8⟩:=drB_row (d:=d) D.out.row
   have hZr:=Z.out.row
   go_wp2_with (refine Xab rfl rfl 43 _ _ rfl w.heap.size 0 (drCs d (.slice ae d.ents.length ce) (.slice ak d.sto.cks.length ck) (.slice at' d.tree.length ct) (.slice ah d.holds.length ch)) (drV d (.slice ae d.ents.length ce) (.slice ak d.sto.cks.length ck) (.slice at' d.tree.length ct) (.slice ah d.holds.length ch)) (by simp [Act.eval]) (by simp [Act.eval]) (by rfl) zeroD 43 hZr (by simp) (by kernel_rfl) (by simp [Value.oneCell']) (drCs d (.slice ae d.ents.length ce) (.slice ak d.sto.cks.length ck) (.slice at' d.tree.length ct) (.slice ah d.holds.length ch)).toArray (by rfl) ?_
                intro w9 hg9 hr9)
   refine bodyPost_ret (v:= .tuple #[drV d (.slice ae d.ents.length ce) (.slice ak d.sto.cks.length ck) (.slice at' d.tree.length ct) (.slice ah d.holds.length ch),.bool true]) ?_ rfl ?_
   ·rw [results_cell_tmp rfl]
    simp [asAddr,run_loadVar_row w9 w.heap.size 43 43 _ (0,0) _ hr9 Tryz.underlying43 rfl Hi9.out]
   ·rw [Hn.out]
    exact ⟨_,_,_,_,_,rfl,(A.out.own hg9 Z.out.no (Qn _)).bel,E.out,(A.out.own hg9 Z.out.no (Qn _)).ok,D.out.rd⟩
abbrev accCs (a:Acc):List Value:= [S a.owner,.int .i64 a.b,.int .i64 a.f,.int .i64 a.ub,.int .i64 a.uf]
abbrev accV (a:Acc):Value:= .agg #[S a.owner,.int .i64 a.b,.int .i64 a.f,.int .i64 a.ub,.int .i64 a.uf]
def tAcc:Ty Acc:=Ty.flat 5 accCs (fun _=>rfl) (fun _ u h=>by simp at h;rcases h with rfl|rfl|rfl|rfl|rfl<;>rfl)
structure AccAt (w:World) (b o:Nat) (a:Acc):Prop where
 c0:w.cell? ⟨b,o,none⟩=some (S a.owner)
 c1:w.cell? ⟨b,o+1,none⟩=some (.int .i64 a.b)
 c2:w.cell? ⟨b,o+2,none⟩=some (.int .i64 a.f)
 c3:w.cell? ⟨b,o+3,none⟩=some (.int .i64 a.ub)
 c4:w.cell? ⟨b,o+4,none⟩=some (.int .i64 a.uf)
theorem Xni {I:IH} {v:Value} {l:List Acc} {w:World} (h:RdS tAcc I v l) (hw:Ok I w) (i:Nat) (hi:i<l.length):∃x b off cap,l[i]=x∧v= .slice (some ⟨b,off,none⟩) l.length cap∧AccAt w b (off+i*5) x:=by
 obtain ⟨b,off,cap,cs,hv,hcs,hc⟩:=h.at_ hw hi
 have hcs:cs=accCs l[i]:=hcs
 subst hcs
 exact ⟨_,b,off,cap,rfl,hv,⟨hc 0 _ rfl,hc 1 _ rfl,hc 2 _ rfl,hc 3 _ rfl,hc 4 _ rfl⟩⟩
structure Acc.In (a:Acc):Prop where
 own:a.owner.length≤9223372036854775807
 b0: -9223372036854775808≤a.b
 b1:a.b≤9223372036854775807
 f0: -9223372036854775808≤a.f
 f1:a.f≤9223372036854775807
 ub0: -9223372036854775808≤a.ub
 ub1:a.ub≤9223372036854775807
 uf0: -9223372036854775808≤a.uf
 uf1:a.uf≤9223372036854775807
abbrev rqCs (r:Rqs) (va:Value):List Value:= [S r.owner,.int .i64 r.c.kind,S r.c.path,va,S r.c.target,S r.c.content]
abbrev rqV (r:Rqs) (va:Value):Value:= .agg #[S r.owner,.int .i64 r.c.kind,S r.c.path,va,S r.c.target,S r.c.content]
def tRq:Ty Rqs where
 size:=6
 rd:=fun I cs r=> ∃va,cs=rqCs r va∧RdS tAt I va r.c.attrs
 len:=fun ⟨_,h,_⟩=>by rw [h];rfl
 one:=fun ⟨va,h,h1⟩ u hu=>by
  rw [h] at hu
  simp at hu
  rcases hu with rfl|rfl|rfl|rfl|rfl|rfl<;>first|rfl|exact h1.one
 mono:=fun hI ⟨va,h,h1⟩=>⟨va,h,h1.mono hI⟩
structure RqAt (w:World) (b o:Nat) (r:Rqs) (va:Value):Prop where
 c0:w.cell? ⟨b,o,none⟩=some (S r.owner)
 c1:w.cell? ⟨b,o+1,none⟩=some (.int .i64 r.c.kind)
 c2:w.cell? ⟨b,o+2,none⟩=some (S r.c.path)
 c3:w.cell? ⟨b,o+3,none⟩=some va
 c4:w.cell? ⟨b,o+4,none⟩=some (S r.c.target)
 c5:w.cell? ⟨b,o+5,none⟩=some (S r.c.content)
theorem rqAt {I:IH} {v:Value} {l:List Rqs} {w:World} (h:RdS tRq I v l) (hw:Ok I w) (i:Nat) (hi:i<l.length):∃x va b off cap,l[i]=x∧v= .slice (some ⟨b,off,none⟩) l.length cap∧
 RqAt w b (off+i*6) x va∧RdS tAt I va x.c.attrs:=by
 obtain ⟨b,off,cap,cs,hv,⟨va,hcs,h1⟩,hc⟩:=h.at_ hw hi
 subst hcs
 exact ⟨_,va,b,off,cap,rfl,hv,⟨hc 0 _ rfl,hc 1 _ rfl,hc 2 _ rfl,hc 3 _ rfl,hc 4 _ rfl,hc 5 _ rfl⟩,h1⟩
structure Rqs.In (r:Rqs):Prop where
 own:r.owner.length≤1048576
 k0: -9223372036854775808≤r.c.kind
 k1:r.c.kind≤9223372036854775807
 path:r.c.path.length≤1048576
 target:r.c.target.length≤1048576
 nattrs:r.c.attrs.length≤1048576
 content:r.c.content.length≤1048576
 attrs:∀x∈r.c.attrs,x.k.length≤1048576∧x.v.length≤1048576
theorem Xj9 (a:Acc) (W:World):(binOp .neq 54 (accV a) (accV a)).run Tryz.prog W= .ok (.bool false) W:=by
 rw [Xcb _ _ [(9,0,false),(3,1,false),(3,2,false),(3,3,false),(3,4,false)] W (by kernel_rfl) (by kernel_rfl) (by kernel_rfl)]
 simp [go_sem]
abbrev tErr:Ty Int:=tInt .i64
theorem Xra {I:IH} {v:Value} {l:List Int} {w:World} (h:RdS tErr I v l) (hw:Ok I w) (i:Nat) (hi:i<l.length):∃s b off cap,l[i]=s∧v= .slice (some ⟨b,off,none⟩) l.length cap∧w.cell? ⟨b,off+i,none⟩=some (.int .i64 s):=by
 obtain ⟨b,off,cap,cs,hv,hcs,hc⟩:=h.at_ hw hi
 have hcs:cs= [.int .i64 l[i]]:=hcs
 subst hcs
 have:=hc 0 _ rfl
 exact ⟨_,b,off,cap,rfl,hv,by simpa [tErr,tInt,Ty.flat] using this⟩
set_option maxRecDepth 100000 in
set_option maxHeartbeats 1000000 in
theorem Xgf (I:IH) (v1 v2:Value) (l:List _) (hv1:RdS tErr I v1 l) (hv2:RdS tErr I v2 l) (w:World) (hw:Ok I w):
 Calls Tryz.prog 24 #[v1,v2] w fun e w'=>e= .returned (.bool true)∧Below w.heap.size w w':=by
 have hlen:=hv1.len_le
 obtain ⟨ao,cap,rfl,hcap,hcm,_⟩:=id hv1
 obtain ⟨ao2,cap2,rfl,hcap2,hcm2,_⟩:=id hv2
 have Hv1:=Qh hv1;clear hv1
 have Hv2:=Qh hv2;clear hv2
 go_enter Tryz.func24,Tryz.ntmps24
 go_wp2_with fail
 go_loopw [5] (fun s5 wr=> ∃k:Nat,k≤l.length∧s5= .int .i64 k∧Below w.heap.size w wr) (fun i _=>l.length-(intOf i).toNat)
 case atStart=>exact ⟨0,Nat.zero_le _,rfl,Qb _ _⟩
 case round=>
  obtain ⟨k,hk,rfl,hb⟩:=hrel
  by_cases hlt:k<l.length
  ·have hwr:Ok I wr:=hw.below (Qn _) hb
   obtain ⟨x,b,off,cap',hlx,hvv,hX⟩:=Xra Hv1.out hwr k hlt
   cases hvv
   obtain ⟨y,b',off',cap'',hly,hvv,hY⟩:=Xra Hv2.out hwr k hlt
   cases hvv
   obtain rfl:x=y:=hlx.symm.trans hly
   have c0:=cell_regrown hX
   have d0:=cell_regrown hY
   clear hlx hly hX hY
   go_wp2_with fail
   refine wp_region_quiet_below (by kernel_rfl) (by kernel_rfl) ?_
   repeat (go_big_quiet_step ((fail)))
   refine wpQuiet_nil ?_
   intro w2 hwq
   have hb2:Below (wr).heap.size (wr) w2:=by
    obtain ⟨pq,rfl⟩:=hwq
    exact below_regrown _ _ _
   clear hwq
   go_wp2
   go_roundw
   case rel=>exact ⟨k+1,by omega,by go_num,hb.trans (hb2.mono hb.size)⟩
   case measure=>simp [intOf];omega
  ·go_wp2
   go_ret
   exact ⟨rfl,hb⟩
set_option maxRecDepth 100000 in
set_option maxHeartbeats 400000 in
theorem Xsr (I:IH) (c:Chg) (va:Value) (hva:RdS tAt I va c.attrs) (w:World):
 Calls Tryz.prog 51 #[chgV c va] w fun r w'=>r= .returned (.tuple #[.int .i64 (costB c),.int .i64 (costF c)])∧Below w.heap.size w w':=by
 obtain ⟨aa,ca,rfl,_,_,_⟩:=id hva
 clear hva
 by_cases q1:c.kind=1
 ·have h1:(c.kind==1)=true:=by simp [q1]
  have Hn:=Qh (show costB c=(c.content.length:Int)∧costF c=1 from ⟨by unfold costB;rw [if_pos q1],by unfold costF;rw [if_pos (.inl q1)]⟩)
  clear q1
  go_enter Tryz.func51,Tryz.ntmps51
  go_wp2
  go_ret2
  exact ⟨by rw [Hn.out.1,Hn.out.2];rfl,(Qb w.heap.size w).alloc (Qn _) _⟩
 ·have h1:(c.kind==1)=false:=by simp [q1]
  by_cases q2:c.kind=2
  ·have h2:(c.kind==2)=true:=by simp [q2]
   have Hn:=Qh (show costB c=0∧costF c=1 from ⟨by unfold costB;rw [if_neg q1],by unfold costF;rw [if_pos (.inr (.inl q2))]⟩)
   clear q1 q2
   go_enter Tryz.func51,Tryz.ntmps51
   go_wp2
   go_ret2
   exact ⟨by rw [Hn.out.1,Hn.out.2];rfl,(Qb w.heap.size w).alloc (Qn _) _⟩
  ·have h2:(c.kind==2)=false:=by simp [q2]
   by_cases q3:c.kind=3
   ·have h3:(c.kind==3)=true:=by simp [q3]
    have Hn:=Qh (show costB c=0∧costF c=1 from ⟨by unfold costB;rw [if_neg q1],by unfold costF;rw [if_pos (.inr (.inr q3))]⟩)
    clear q1 q2 q3
    go_enter Tryz.func51,Tryz.ntmps51
    go_wp2
    go_ret2
    exact ⟨by rw [Hn.out.1,Hn.out.2];rfl,(Qb w.heap.size w).alloc (Qn _) _⟩
   ·have h3:(c.kind==3)=false:=by simp [q3]
    have Hn:=Qh (show costB c=0∧costF c=0 from ⟨by unfold costB;rw [if_neg q1],by unfold costF;rw [if_neg (by omega)]⟩)
    clear q1 q2 q3
    go_enter Tryz.func51,Tryz.ntmps51
    go_wp2
    go_ret2
    exact ⟨by rw [Hn.out.1,Hn.out.2];rfl,(Qb w.heap.size w).alloc (Qn _) _⟩
end Go.Proofs.YtmdfjnhfhidmhaaGreatDoor
