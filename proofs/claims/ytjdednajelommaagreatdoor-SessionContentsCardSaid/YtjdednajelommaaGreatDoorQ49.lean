/-
  Walks and laws that the claim's theorem uses: texts SoD SoE SoN, joined; comments out. Conditions: as each theorem says.
-/
import Derived.Test.YtjdednajelommaaGreatDoorQ39
set_option linter.unusedSimpArgs false
set_option linter.unusedVariables false
namespace Go.Proofs.YtjdednajelommaaGreatDoor
open Go.RowKit
theorem Xld {α:Type} (f:α→List Bytes) {l:List α} {k:Nat} (hk:k<l.length) {x:α} (hx:l[k]=x):(l.take (k+1)).flatMap f=(l.take k).flatMap f++f x:=by
 rw [List.take_succ_eq_append_getElem hk,hx,List.flatMap_append]
 simp
theorem Xrq {α:Type} (f:α→List Bytes) (l:List α) (k:Nat):((l.take k).flatMap f).length≤(l.flatMap f).length:=by
 have h:((l.take k).flatMap f++(l.drop k).flatMap f).length=(l.flatMap f).length:=by rw [←List.flatMap_append,List.take_append_drop]
 rw [List.length_append] at h
 omega
theorem Xqn {s:Bytes} {g:Sg} (h:g∈segsP s):g.d.length≤s.length:=by
 obtain ⟨a,b,e⟩:=List.append_of_mem h
 have hf:=Xgx s
 rw [e,List.flatMap_append,List.flatMap_cons] at hf
 rw [←hf,List.length_append,List.length_append]
 have:g.d.length≤(segB g).length:=by
  unfold segB
  split
  ·rename_i h0;rw [h0];simp
  ·exact Qn _
 omega
abbrev segC (g:Sg):List Bytes:=chunksP g.d
abbrev conC (c:Bytes):List Bytes:=(segsP c).flatMap segC
set_option maxRecDepth 100000 in
set_option maxHeartbeats 4000000 in
theorem Xkq (I:IH) (v:Value) (cs:List Bytes) (hv:RdS tStr I v cs) (hc:∀c∈cs,c.length≤65536) (hN:(cs.flatMap conC).length≤1000000) (w:World) (hw:Ok I w):
 Calls Tryz.prog 28 #[v] w fun e w'=>e= .returned (.bool (collP cs))∧Below w.heap.size w w':=by
 have hlen:=hv.len_le
 obtain ⟨ao,cap,rfl,_,_,_⟩:=id hv
 have Hv:=Qh hv
 have Hc:=Qh hc
 have Hfr:=Qh (fun g (h:w.heap.size≤g)=>hw.fresh (b:=g) h)
 clear hv hc
 obtain ⟨W0,hW0⟩:∃W0,((w.alloc (.cells #[] 9)).alloc (.cells #[] 9))=W0:=⟨_,rfl⟩
 have hO3:OwnS tStr 9 I W0 w.heap.size (.slice (some ⟨w.heap.size,0,none⟩) 0 0) []:=by rw [←hW0];exact (Xdj w).alloc _
 have hO4:OwnS tStr 9 (fun _=>none) W0 (w.heap.size+1) (.slice (some ⟨w.heap.size+1,0,none⟩) 0 0) []:=by
  rw [←hW0]
  have:=Xdj (T:=tStr) (E:=9) (I:=fun _=>none) (w.alloc (.cells #[] 9))
  rwa [World.size_alloc] at this
 have hb0:Below w.heap.size w W0:=by rw [←hW0];exact ((Qb _ _).alloc (Qn _) _).alloc (by simp) _
 have H3:=Qh hO3
 have H4:=Qh hO4
 clear hO3 hO4
 go_enter Tryz.func28,Tryz.ntmps28
 go_wp2_with fail
 clear hW0
 go_loopw [3,5,6,7] (fun s3 s5 _ _ wr=> ∃k:Nat,k≤cs.length∧s5= .int .i64 k∧OwnS tStr 9 I wr w.heap.size s3 ((cs.take k).flatMap conC)∧OwnS tStr 9 (fun _=>none) wr (w.heap.size+1) (.slice (some ⟨w.heap.size+1,0,none⟩) 0 0) []∧s3.ownBlock≠some (w.heap.size+1)∧Below w.heap.size w wr) (fun _ i _ _ _=>cs.length-(intOf i).toNat)
 case atStart=>exact ⟨0,Nat.zero_le _,rfl,H3.out,H4.out,by simp [Value.ownBlock],hb0⟩
 case round=>
  clear hb0 H3 H4
  obtain ⟨k,hk,rfl,hO,hO4,hne,hb⟩:=hrel
  have HO:=Qh hO
  have HO4:=Qh hO4
  have Hne:=Qh hne
  have hwr:Ok I wr:=hw.below (Qn _) hb
  clear hO hO4 hne
  by_cases hlt:k<cs.length
  ·obtain ⟨x,b,off,cap',hlx,hvv,x0⟩:=Xf9 Hv.out hwr k hlt
   cases hvv
   have hxl:=Hc.out x (by rw [←hlx];exact List.getElem_mem hlt)
   have Hst:=Qh (Xld conC hlt hlx)
   have hle:=Xrq conC cs (k+1)
   rw [Hst.out,List.length_append] at hle
   have Hsg:=Qh (fun g (h:g∈segsP x)=>Xqn h)
   obtain ⟨segs,hsegs⟩:∃segs,segsP x=segs:=⟨_,rfl⟩
   have Hsp:=Qh (Xmo I x (by omega) wr)
   have hcon:conC x=segs.flatMap segC:=by rw [←hsegs]
   rw [hcon] at Hst hle
   rw [hsegs] at Hsp Hsg
   clear hlx hsegs hcon
   go_wp2_with fail
   refine Hsp.out.mono ?_
   rintro e1 w1 ⟨v1,rfl,ho1,hb1⟩
   obtain ⟨J,hx1,hok1,hrs,_⟩:=ho1.freeze (hwr.below (Qn _) hb1) (fun b hb=>hwr.fresh hb)
   have HO1:=Qh (HO.out.below hb1)
   have HO41:=Qh (HO4.out.below hb1)
   have hno:∀g,u3.ownBlock=some g→J g=none:=fun g e=>(hx1 g (Xbn HO.out e).2).trans (Hfr.out g (HO.out.own_ge e))
   have hb1':=hb.trans (hb1.mono hb.size)
   have Hrs:=Qh hrs
   have hsl:=hrs.len_le
   obtain ⟨os,cps,rfl,_,_,_⟩:=id hrs
   clear hrs ho1 x0 hb1 hwr Hsp
   go_wp2_with fail
   go_loopw [3,7] (fun s3 s7 wr=> ∃j:Nat,j≤segs.length∧s7= .int .i64 j∧OwnS tStr 9 I wr w.heap.size s3 ((cs.take k).flatMap conC++(segs.take j).flatMap segC)∧OwnS tStr 9 (fun _=>none) wr (w.heap.size+1) (.slice (some ⟨w.heap.size+1,0,none⟩) 0 0) []∧s3.ownBlock≠some (w.heap.size+1)∧(∀g,s3.ownBlock=some g→J g=none)∧Ok J wr∧Below w.heap.size w wr) (fun _ i _=>segs.length-(intOf i).toNat)
   case atStart=>exact ⟨0,Nat.zero_le _,rfl,by simpa using HO1.out,HO41.out,Hne.out,hno,hok1,hb1'⟩
   case round=>
    clear HO HO4 Hne HO1 HO41 hno hok1 hb hb1'
    obtain ⟨j,hj,rfl,hO,hO4,hne,hno,hok,hb⟩:=hrel
    have HO:=Qh hO
    have HO4:=Qh hO4
    have Hne:=Qh hne
    have Hno:=Qh hno
    clear hO hO4 hne hno
    by_cases hjt:j<segs.length
    ·obtain ⟨g,b2,off2,cap2,hlg,hvv,x0,x1⟩:=sgAt Hrs.out hok j hjt
     cases hvv
     have hgl:=Hsg.out g (by rw [←hlg];exact List.getElem_mem hjt)
     have Hs2:=Qh (Xld segC hjt hlg)
     have hl2:=Xrq segC segs (j+1)
     rw [Hs2.out,List.length_append] at hl2
     have Hsp:=Qh (Xmp I g.d (by omega) wr)
     obtain ⟨ch,hch⟩:∃ch,chunksP g.d=ch:=⟨_,rfl⟩
     have hcg:segC g=ch:=hch
     rw [hcg] at Hs2 hl2
     rw [hch] at Hsp
     clear hlg hch hcg
     go_wp2_with fail
     refine Hsp.out.mono ?_
     rintro e3 w3 ⟨v3,rfl,ho3,hb3⟩
     obtain ⟨a3,k3,rfl⟩:=Xbl ho3
     have HO3:=Qh (HO.out.below hb3)
     have HO43:=Qh (HO4.out.below hb3)
     have hb3':=hb.trans (hb3.mono hb.size)
     have hok3:=hok.below (Qn _) hb3
     have hs3:=hb3'.size
     have hs41:=(Xbn HO43.out (g:=w.heap.size+1) (by simp [Value.ownBlock])).2
     have Hlen:=Qh (show ((cs.take k).flatMap conC++(segs.take j).flatMap segC).length+ch.length≤1000000 by rw [List.length_append];omega)
     have hl1:=Hlen.out
     clear x0 x1 hb3 hok HO HO4 Hsp
     go_wp2_with (at_builtin
                  refine Xbi Xb7 rfl _ _ rfl (B:=w.heap.size) rfl HO3.out (vx:= .slice a3 ch.length k3) (by simp [Act.eval]) (SrcS.of_own ho3) (by omega) (by omega) hs3 ?_
                  intro v5 w5 ho5 hg5 hl5)
     have hb5:=Below.own hb3' hg5 HO3.out (Qn _) hs3
     go_roundw
     case rel=>exact ⟨j+1,by omega,by go_num,by rw [Hs2.out,←List.append_assoc];exact ho5,HO43.out.kept hg5 (.inr (fun e=>Hne.out (show u3.ownBlock=some (w.heap.size+1) from e.symm))),fun e=>(hl5 _ e).elim Hne.out (fun q=>by omega),fun g e=>(hl5 g e).elim (Hno.out g) (fun q=>hok3.fresh q),hok3.grown hg5 (fun g e=>Hno.out g e),hb5⟩
     case measure=>simp [intOf];omega
    ·have hje:j=segs.length:=by omega
     subst hje
     rw [List.take_length] at HO
     go_wp2
     go_roundw
     case rel=>exact ⟨k+1,by omega,by go_num,by rw [Hst.out];exact HO.out,HO4.out,Hne.out,hb⟩
     case measure=>simp [intOf];omega
  ·have hke:k=cs.length:=by omega
   subst hke
   rw [List.take_length] at HO
   obtain ⟨J,hx,hok,hrU,hJ⟩:=HO.out.freeze hwr (fun b hb=>Hfr.out b hb)
   have hno:∀g,(Value.slice (some ⟨w.heap.size+1,0,none⟩) 0 0).ownBlock=some g→J g=none:=fun g e=>by
    have e':w.heap.size+1=g:=by simpa [Value.ownBlock] using e
    subst e'
    rw [hJ _ Hne.out]
    exact Hfr.out _ (by omega)
   have Hcoll:=Qh (show collFrom [] (cs.flatMap conC)=collP cs from rfl)
   have Hun:=Qh (fun x (h:x∈cs.flatMap conC)=>show x.length≤65536 by
    obtain ⟨c,hc,hx⟩:=List.mem_flatMap.1 h
    obtain ⟨g,hg,hx⟩:=List.mem_flatMap.1 hx
    have h1:=Xc0 hx
    rw [Xdl] at h1
    have h2:=Xqn hg
    have h3:=Hc.out c hc
    omega)
   obtain ⟨U,hU⟩:∃U,cs.flatMap conC=U:=⟨_,rfl⟩
   rw [hU] at hrU Hcoll Hun hN
   obtain ⟨au,cu,rfl,_,_,_⟩:=id hrU
   have HrU:=Qh hrU
   clear hrU hU hx hJ HO Hne hwr
   go_wp2_with fail
   go_loopw [4,8,9] (fun s4 s8 _ wr=> ∃i:Nat,i≤U.length∧s8= .int .i64 i∧OwnS tStr 9 (fun _=>none) wr (w.heap.size+1) s4 ((U.take i).map sumP)∧(∀g,s4.ownBlock=some g→J g=none)∧Ok J wr∧Below w.heap.size w wr∧collFrom (U.take i) (U.drop i)=collP cs) (fun _ i _ _=>U.length-(intOf i).toNat)
   case atStart=>exact ⟨0,Nat.zero_le _,rfl,HO4.out,hno,hok,hb,Hcoll.out⟩
   case round=>
    clear HO4 hno hok hb
    obtain ⟨i,hi,rfl,hO,hno,hok,hb,hcl⟩:=hrel
    have HO:=Qh hO
    have Hno:=Qh hno
    have Hcl:=Qh hcl
    clear hO hno hcl
    by_cases hit:i<U.length
    ·obtain ⟨c,b,off,cap',hlc,hvv,x0⟩:=Xf9 HrU.out hok i hit
     cases hvv
     have hcl:=Hun.out c (by rw [←hlc];exact List.getElem_mem hit)
     have Hcf:=Qh (show collFrom (U.take i) (c::U.drop (i+1))=collP cs by rw [←hlc,←List.drop_eq_getElem_cons hit];exact Hcl.out)
     have Htk:=Qh (show U.take (i+1)=U.take i++ [c] by rw [List.take_succ_eq_append_getElem hit,hlc])
     have Hsum:=Qh (Xfp wr.heap.size 0 1 c (by omega) (wr.alloc (.cells #[S c] 9)) (by simp))
     have hs1:=hb.size
     have Hlen:=Qh (show ((U.take i).map sumP).length=i by simp;omega)
     clear Hcl
     go_wp2_with fail
     refine Hsum.out.mono ?_
     rintro e1 w1 ⟨rfl,hb1⟩
     have HO1:=Qh ((HO.out.alloc (.cells #[S c] 9)).below hb1)
     have hok1:=(hok.alloc (.cells #[S c] 9)).below (Qn _) hb1
     have hb1':=(hb.alloc hs1 (.cells #[S c] 9)).trans (hb1.mono (by simp;omega))
     have hs2:=hb1'.size
     have hs3:w.heap.size+1≤w1.heap.size:=by have:=hb1.size;simp at this;omega
     clear HO hb1 hok x0 Hsum
     go_wp2_with (at_builtin
                  refine Xbi Xb7 rfl _ _ rfl (B:=w.heap.size+1) rfl (HO1.out.alloc _) (vx:= .slice (some ⟨w1.heap.size,0,none⟩) 1 1) (by simp [Act.eval]) (SrcS.of_one (T:=tStr) (x:=sumP c) (cs:= [S (sumP c)]) rfl (fun j u hu=>by rw [World.cell?_alloc_new];simpa using hu)) (by rw [Hlen.out];simp;omega) (by rw [Hlen.out];simp;omega) (by simp;omega) ?_
                  intro v5 w5 ho5 hg5 hl5)
     have hok5:=(hok1.alloc (.cells #[S (sumP c)] 9)).grown hg5 (fun g e=>Hno.out g e)
     have hno5:=Qh (show ∀g,v5.ownBlock=some g→J g=none from fun g e=>(hl5 g e).elim (Hno.out g) (fun q=>hok1.fresh (by simp at q;omega)))
     have hb5:Below w.heap.size w w5:=(hb1'.alloc hs2 (.cells #[S (sumP c)] 9)).grown hg5 (by simp;omega) (fun g e=>by have:=(Xbn HO1.out e).1;omega)
     have HO5:=Qh (show OwnS tStr 9 (fun _=>none) w5 (w.heap.size+1) v5 ((U.take (i+1)).map sumP) by rw [Htk.out,List.map_append];exact ho5)
     obtain ⟨K,hK,hokK,hrD⟩:=HO5.out.freeze1 (fun _=>rfl) hok5 hno5.out
     have HrK:=Qh (HrU.out.mono hK)
     have Hlc:=Qh hlc
     obtain ⟨ad,cd,rfl,_,_,_⟩:=id hrD
     have HrD:=Qh hrD
     have hdl:((U.take (i+1)).map sumP).length=i+1:=by simp;omega
     have hs5:=hb5.size
     clear ho5 hg5 hl5 HO1 hb1' hok1 hrD hK hlc
     go_loopw [9] (fun s9 wr=> ∃k:Nat,k≤i∧s9= .int .i64 k∧((U.take k).any fun p=>sumP p==sumP c&&p != c)=false∧Below w5.heap.size w5 wr) (fun m _=>i-(intOf m).toNat)
     case atStart=>exact ⟨0,Nat.zero_le _,rfl,rfl,Qb _ _⟩
     case round=>
      obtain ⟨k,hk,rfl,hany,hb6⟩:=hrel
      have Hany:=Qh hany
      have hokr:=hokK.below (Qn _) hb6
      have hb7:=hb5.trans (hb6.mono hs5)
      clear hany
      by_cases hkt:k<i
      ·obtain ⟨p,ba,oa,ca,hlp,hvv,y0⟩:=Xf9 HrK.out hokr k (by omega)
       cases hvv
       obtain ⟨c',ba',oa',ca',hlc',hvv,y1⟩:=Xf9 HrK.out hokr i hit
       cases hvv
       have hcc:=hlc'.symm.trans Hlc.out
       rw [hcc] at y1
       clear hcc hlc'
       obtain ⟨d1,bd,od,cd',hld,hvv,z0⟩:=Xf9 HrD.out hokr k (by omega)
       cases hvv
       obtain ⟨d2,bd',od',cd3,hld2,hvv,z1⟩:=Xf9 HrD.out hokr i (by omega)
       cases hvv
       rw [List.getElem_map,List.getElem_take,hlp] at hld
       rw [List.getElem_map,List.getElem_take,Hlc.out] at hld2
       subst hld
       subst hld2
       have Hat:=Qh (Xca (p:=fun p=>sumP p==sumP c&&p != c) (by omega) hlp Hany.out)
       have Hhit:=Qh (Xj1 (p:=fun p=>sumP p==sumP c&&p != c) (l:=U.take i) (k:=k) (x:=p) (by rw [List.length_take];omega) (by rw [List.getElem_take];exact hlp))
       clear hlp
       by_cases q1:sumP p=sumP c
       ·have e1:(sumP p==sumP c)=true:=by simpa using q1
        have e1b:decide (sumP p=sumP c)=true:=Qt q1
        by_cases q2:p=c
        ·have e2:(p != c)=false:=by simpa using q2
         have e2b:(p==c)=true:=by simpa using q2
         have e2c:decide (p=c)=true:=Qt q2
         have Hn:=Qh (Hat.out (by simp [e2]))
         clear q1 q2 Hat Hhit
         have y0:=cell_regrown y0
         have y1:=cell_regrown y1
         have z0:=cell_regrown z0
         have z1:=cell_regrown z1
         go_wp2_with fail
         refine wp_region_quiet_below (by kernel_rfl) (by kernel_rfl) ?_
         repeat (first|go_big_quiet_step (fail)|refine BigFrame.wpQuiet_skip (by rfl) ?_)
         refine wpQuiet_nil ?_
         intro w2 hwq
         have hb2:Below wr.heap.size wr w2:=by
          obtain ⟨pq,rfl⟩:=hwq
          exact below_regrown _ _ _
         clear hwq
         have hb8:=hb6.trans (hb2.mono hb6.size)
         have hb9:=hb7.trans (hb2.mono hb7.size)
         go_wp2_with fail
         go_roundw
         case rel=>exact ⟨k+1,by omega,by go_num,Hn.out,hb8⟩
         case measure=>simp [intOf];omega
        ·have e2:(p != c)=true:=by simpa using q2
         have e2b:(p==c)=false:=by simpa using q2
         have e2c:decide (p=c)=false:=Qf q2
         have Hn:=Qh (show collP cs=true by rw [←Hcf.out,collFrom,Hhit.out (by simp [e1,e2]),Bool.true_or])
         clear q1 q2 Hat Hhit
         have y0:=cell_regrown y0
         have y1:=cell_regrown y1
         have z0:=cell_regrown z0
         have z1:=cell_regrown z1
         go_wp2_with fail
         refine wp_region_quiet_below (by kernel_rfl) (by kernel_rfl) ?_
         repeat (first|go_big_quiet_step (fail)|refine BigFrame.wpQuiet_skip (by rfl) ?_)
         refine wpQuiet_nil ?_
         intro w2 hwq
         have hb2:Below wr.heap.size wr w2:=by
          obtain ⟨pq,rfl⟩:=hwq
          exact below_regrown _ _ _
         clear hwq
         have hb8:=hb6.trans (hb2.mono hb6.size)
         have hb9:=hb7.trans (hb2.mono hb7.size)
         go_wp2_with fail
         go_ret
         exact ⟨Xax Hn.out.symm,hb9⟩
       ·have e1:(sumP p==sumP c)=false:=by simpa using q1
        have e1b:decide (sumP p=sumP c)=false:=Qf q1
        have Hn:=Qh (Hat.out (by simp [e1]))
        clear q1 Hat Hhit
        have y0:=cell_regrown y0
        have y1:=cell_regrown y1
        have z0:=cell_regrown z0
        have z1:=cell_regrown z1
        go_wp2_with fail
        refine wp_region_quiet_below (by kernel_rfl) (by kernel_rfl) ?_
        repeat (first|go_big_quiet_step (fail)|refine BigFrame.wpQuiet_skip (by rfl) ?_)
        refine wpQuiet_nil ?_
        intro w2 hwq
        have hb2:Below wr.heap.size wr w2:=by
         obtain ⟨pq,rfl⟩:=hwq
         exact below_regrown _ _ _
        clear hwq
        have hb8:=hb6.trans (hb2.mono hb6.size)
        have hb9:=hb7.trans (hb2.mono hb7.size)
        go_wp2_with fail
        go_roundw
        case rel=>exact ⟨k+1,by omega,by go_num,Hn.out,hb8⟩
        case measure=>simp [intOf];omega
      ·have hke:k=i:=by omega
       subst hke
       have Hn:=Qh (show collFrom (U.take (k+1)) (U.drop (k+1))=collP cs by rw [←Hcf.out,collFrom,Hany.out,Bool.false_or,Htk.out])
       go_wp2
       go_roundw
       case rel=>exact ⟨k+1,by omega,by go_num,HO5.out.below hb6,hno5.out,hok5.below (Qn _) hb6,hb7,Hn.out⟩
       case measure=>simp [intOf];omega
    ·have hie:i=U.length:=by omega
     subst hie
     have Hn:=Qh (show collP cs=false by rw [←Hcl.out,List.drop_length];rfl)
     go_wp2
     go_ret
     exact ⟨Xax Hn.out.symm,hb⟩
set_option maxRecDepth 100000 in
set_option maxHeartbeats 1000000 in
theorem Xm3 (I:IH) (ai dt sp:Int) (L:List Ses) (hn:L.length≤1000) (vs:Value) (hvs:RdS tSes I vs L) (w:World) (hw:Ok I w):
 Calls Tryz.prog 31 #[arcV ai dt sp vs] w fun e w'=> ∃v',e= .returned v'∧OwnS tStr 9 I w' w.heap.size v' (strsP L)∧Below w.heap.size w w':=by
 have Hvs:=Qh hvs
 obtain ⟨so,sc,rfl,_,_,_⟩:=id hvs
 clear hvs
 have Hok0:=Qh (fun b (h:w.heap.size+1≤b)=>hw.fresh (b:=b) (by omega))
 have H0:=Qh (heap_alloc_new w (.cells #[.int .u32 ai,.int .i64 dt,.int .i64 sp,.slice so L.length sc] 30))
 have hO0:=Qh (Xdj (T:=tStr) (E:=9) (I:=I) (w.alloc (.cells #[.int .u32 ai,.int .i64 dt,.int .i64 sp,.slice so L.length sc] 30)))
 have hok0:Ok I ((w.alloc (.cells #[.int .u32 ai,.int .i64 dt,.int .i64 sp,.slice so L.length sc] 30)).alloc (.cells #[] 9)):=(hw.alloc _).alloc _
 have hb0:Below w.heap.size w ((w.alloc (.cells #[.int .u32 ai,.int .i64 dt,.int .i64 sp,.slice so L.length sc] 30)).alloc (.cells #[] 9)):=((Qb _ _).alloc (Qn _) _).alloc (by simp) _
 have hz0:((w.alloc (.cells #[.int .u32 ai,.int .i64 dt,.int .i64 sp,.slice so L.length sc] 30)).alloc (.cells #[] 9)).cell? ⟨w.heap.size,3,none⟩=some (.slice so L.length sc):=Xai _ ((cell_of_row _ _ 3 _ _ _ H0.out).trans rfl)
 have Hz0:=Qh hz0
 clear hz0
 go_enter Tryz.func31,Tryz.ntmps31
 go_wp2_with fail
 go_loopw [3,4,9] (fun s3 _ s4 wr=> ∃k:Nat,k≤L.length∧s4= .int .i64 k∧OwnS tStr 9 I wr (w.heap.size+1) s3 (strsP (L.take k))∧Ok I wr∧Below w.heap.size w wr∧wr.cell? ⟨w.heap.size,3,none⟩=some (.slice so L.length sc)) (fun _ _ i _=>L.length-(intOf i).toNat)
 case atStart=>exact ⟨0,Nat.zero_le _,rfl,by have:=hO0.out;rw [World.size_alloc] at this;exact this,hok0,hb0,Hz0.out⟩
 case round=>
  clear hok0 hb0
  obtain ⟨k,hk,rfl,hO,hok,hb,hz⟩:=hrel
  have HO:=Qh hO
  have Hok:=Qh hok
  clear hO hok
  by_cases hlt:k<L.length
  ·obtain ⟨x,ve,b,off,cap',hlx,hvv,⟨c0,c1,c2,c3,c4,c5⟩,h1⟩:=Xfn Hvs.out Hok.out k hlt
   cases hvv
   have Hkl:=Qh (show (strsP (L.take k)).length=k by simp [strsP];omega)
   have Hst:=Qh (Xka hlt hlx)
   have hlt0:w.heap.size<wr.heap.size:=block_lt_of_cell hz
   have Hz:=Qh hz
   clear hlx h1
   go_wp2_with (at_builtin
                refine Xat (w0:=wr) Xb7 rfl _ _ rfl (w.heap.size+1) _ _ rfl HO.out x.stream [S x.stream] _ (by first|rfl|simp [Act.eval]) rfl (by rw [Hkl.out];omega) (by rw [Hkl.out];omega) (by omega) ?_
                intro v5 w5 ho5 hg5)
   go_roundw
   case rel=>exact ⟨k+1,by omega,by go_num,by rw [Hst.out];exact ho5,Hok.out.own hg5 HO.out (fun b hb=>Hok0.out b hb),Below.own hb hg5 HO.out (by omega) (by omega),Xam hg5 (HO.out.ne_lt (by simp)) Hz.out⟩
   case measure=>simp [intOf];omega
  ·have hke:k=L.length:=by omega
   subst hke
   rw [List.take_length] at HO
   go_wp2
   go_ret
   exact ⟨_,rfl,HO.out.lower (by omega),hb⟩
theorem Xwv (c:Bytes):(conC c).length≤c.length:=by
 have key:∀l:List Sg,(l.flatMap segC).length≤(l.flatMap segB).length:=by
  intro l
  induction l with
  |nil=>exact Qn _
  |cons g l ih=>
   have h1:=Xeh g.d
   have h2:g.d.length≤(segB g).length:=by
    unfold segB
    split
    ·rename_i h0;rw [h0];simp
    ·exact Qn _
   rw [List.flatMap_cons,List.flatMap_cons,List.length_append,List.length_append]
   show (chunksP g.d).length+_≤_
   omega
 have h:=key (segsP c)
 rw [Xgx] at h
 exact h
theorem Xof:∀ {cs:List Bytes},(∀c∈cs,c.length≤1000)→(cs.flatMap conC).length≤1000*cs.length
 | [],_=>Nat.zero_le _
 |c::l,h=>by
  have h1:=Xwv c
  have h2:=h c (List.mem_cons_self ..)
  have h3:=Xof (fun x hx=>h x (List.mem_cons_of_mem c hx))
  rw [List.flatMap_cons,List.length_append,List.length_cons]
  omega
theorem Xt3 {l:List Bat} {b:Bat} (hb:b∈l) {c:Chg} (hc:c∈b.chgs):c.content∈cntsB l:=
 List.mem_flatten.2 ⟨_,List.mem_map.2 ⟨b,hb,rfl⟩,List.mem_map.2 ⟨c,hc,rfl⟩⟩
theorem Xwy {l:List Bat} {s:Bytes} (h:s∈cntsB l):∃b∈l,∃c∈b.chgs,c.content=s:=by
 obtain ⟨a,ha,hs⟩:=List.mem_flatten.1 h
 obtain ⟨b,hb,rfl⟩:=List.mem_map.1 ha
 obtain ⟨c,hc,e⟩:=List.mem_map.1 hs
 exact ⟨b,hb,c,hc,e⟩
theorem Xr9 {cs:List Bytes} {c:Bytes} (hc:c∈cs):∀x∈chunksOf [c],x∈chunksOf cs:=fun x hx=>by
 obtain ⟨a,ha,h⟩:=List.mem_flatMap.1 hx
 rw [List.mem_singleton.1 ha] at h
 exact List.mem_flatMap.2 ⟨c,hc,h⟩
def tWnt:Ty (List Chg) where
 size:=1
 rd:=fun I cs l=> ∃v,cs= [v]∧RdS tChg I v l
 len:=fun ⟨_,h,_⟩=>by rw [h];rfl
 one:=fun ⟨v,h,h1⟩ u hu=>by
  rw [h] at hu
  simp at hu
  rw [hu];exact h1.one
 mono:=fun hI ⟨v,h,h1⟩=>⟨v,h,h1.mono hI⟩
theorem Xx4 {I:IH} {v:Value} {l:List (List Chg)} {w:World} (h:RdS tWnt I v l) (hw:Ok I w) (i:Nat) (hi:i<l.length):∃x vc b off cap,l[i]=x∧v= .slice (some ⟨b,off,none⟩) l.length cap∧w.cell? ⟨b,off+i,none⟩=some vc∧RdS tChg I vc x:=by
 obtain ⟨b,off,cap,cs,hv,⟨vc,hcs,h1⟩,hc⟩:=h.at_ hw hi
 subst hcs
 have hc0:=hc 0 _ rfl
 exact ⟨_,vc,b,off,cap,rfl,hv,(by simpa [tWnt] using hc0),h1⟩
theorem Xsq:(Tryz.prog.info? 34).map (fun i=>(i.zero,i.size,i.bytes))=some (some (.slice none 0 0),1,24):=by kernel_rfl
theorem Xsr:ElemOk Tryz.prog 65 34 tWnt 24:=ElemOk.of Tryz.underlying65 Xsq rfl (by decide) rfl
theorem MAt.ownS {I J:IH} {w0 W W':World} (h:MAt I w0 J W) {row:Option Nat} (hg:W.grownBy W' row) (hr:∀g,row=some g→J g=none∧w0.heap.size≤g):MAt I w0 J W':=
 ⟨h.ok.grown hg (fun g e=>(hr g e).1),h.keep,h.bel.grown hg h.size (fun g e=>(hr g e).2)⟩
theorem ArB.ownS {J:IH} {w w':World} {B:Nat} {ai dt sp:Int} {vs:Value} {L:List Ses} (h:ArB J w B ai dt sp vs L) {row:Option Nat} (hg:w.grownBy w' row) (hne:row≠some B):ArB J w' B ai dt sp vs L:=
 ⟨h.no,h.rd,(hg.block _ h.lt (fun e=>hne e.symm)).trans h.row⟩
abbrev naL (so:Option Addr) (ll sc b off n lc k:Nat) (date:Int) (oc:Option Addr) (cl cc:Nat) (L2:List Ses) (cnt rn:Int) (x:(Option Addr × Nat) × Nat):List (Option Tmp × Value):=
 [(some 31,arcV 0 0 0 (.slice so ll sc)),(some 32,.slice (some ⟨b,off,none⟩) n lc),(some 33,.int .i64 (k:Int)),(some 34,.pointer (some ⟨b,off+k*2,none⟩)),(some 35,.pointer (some ⟨b,off+k*2,none⟩)),(some 36,.int .i64 date),(some 37,.slice (some ⟨b,off,none⟩) n lc),(some 38,.int .i64 (k:Int)),(some 39,.pointer (some ⟨b,off+k*2,none⟩)),(some 40,.pointer (some ⟨b,off+k*2+1,none⟩)),(some 41,.slice oc cl cc),(some 42,.tuple #[arcV 0 0 0 (.slice x.1.1 L2.length x.1.2),.int .i64 cnt,.int .i64 rn]),(some 30,.tuple #[arcV 0 0 0 (.slice x.1.1 L2.length x.1.2),.int .i64 cnt,.int .i64 rn]),(some 43,arcV 0 0 0 (.slice x.1.1 L2.length x.1.2)),(some 44,.int .i64 cnt),(some 45,.int .i64 rn),(some 6,.pointer (some ⟨x.2,0,none⟩)),(none,undef),(some 7,.int .i64 cnt),(some 8,.int .i64 rn)]
theorem Xc6 {so:Option Addr} {ll sc b off n lc k:Nat} {date:Int} {oc:Option Addr} {cl cc:Nat} {L2:List Ses} {cnt rn:Int} {x:(Option Addr × Nat) × Nat}:ApartF (naL so ll sc b off n lc k date oc cl cc L2 cnt rn x):=by
 unfold ApartF
 simp
abbrev nbL (so:Option Addr) (n sc m BE:Nat) (ox:Option Addr) (ll px:Nat) (ct:Bytes) (x:Option Addr × Nat):List (Option Tmp × Value):=
 [(some 95,arcV 0 0 0 (.slice so n sc)),(some 96,.slice x.1 m x.2),(some 97,.pointer (some ⟨BE,6,none⟩)),(some 98,.slice ox ll px),(some 99,.tuple #[S ct,.int .i64 0]),(some 94,.tuple #[S ct,.int .i64 0]),(some 100,S ct),(some 101,.int .i64 0),(some 12,S ct),(some 13,.int .i64 0)]
theorem Xdy {so:Option Addr} {n sc m BE:Nat} {ox:Option Addr} {ll px:Nat} {ct:Bytes} {x:Option Addr × Nat}:ApartF (nbL so n sc m BE ox ll px ct x):=by
 unfold ApartF
 simp
set_option maxRecDepth 100000 in
set_option maxHeartbeats 8000000 in
theorem Xeq (I:IH) (hI:Glob I) (v:Value) (l:List Bat) (hv:RdS tBat I v l) (hwf:∀b∈l,b.In) (w:World) (hw:Ok I w):
 Calls Tryz.prog 7 #[v] w fun r w'=>r= .returned (.bool true)∧Below w.heap.size w w':=by
 have Haw:=Qh (fun J (hk:∀b c,I b=some c→J b=some c) w hw=>Xep J (hI.mono hk) w hw)
 have Hgr:=Qh (fun w hw=>Xg5 I v l hv w hw)
 have A0:=Qh (MAt.start hw)
 have HG:=Qh hI
 have Hv:=Qh hv
 obtain ⟨ao,cap,rfl,_,_,_⟩:=id hv
 cases hg:gr39 l
 case true=>
  have e1:gr39I l=1:=by rw [gr39I,hg];rfl
  rw [e1] at Hgr
  clear e1 hg hv hI
  go_enter Tryz.func7,Tryz.ntmps7
  go_wp2_with fail
  refine (Hgr.out _ A0.out.ok).mono ?_
  rintro e1 w1 ⟨rfl,hb1⟩
  have A1:=Qh (A0.out.quiet hb1)
  clear hb1 A0
  go_wp2_with fail
  refine (Haw.out I (fun _ _ h=>h) _ A1.out.ok).mono ?_
  rintro e2 w2 ⟨rfl,hb2⟩
  have A2:=Qh (A1.out.quiet hb2)
  clear hb2 A1
  go_wp2
  go_ret
  exact ⟨rfl,A2.out.bel⟩
 have e1:gr39I l=0:=by rw [gr39I,hg];rfl
 rw [e1] at Hgr
 obtain ⟨hsm,htot,hl4⟩:=Xm8 hwf hg
 have Hsm:=Qh hsm
 have HA:=Qh (Xgd (l:=l) (fun b hb c h=>by have:=(hsm b hb c h).content;omega) (by omega) (by omega))
 have Hct:=Qh (fun w hw=>Xkp I _ l hv (by omega) w hw)
 have hcb:∀s∈cntsB l,s.length≤1000:=fun s hs=>by
  obtain ⟨b,hb,c,hc,e⟩:=Xwy hs
  rw [←e]
  have:=(hsm b hb c hc).content
  omega
 have hcn:=Xof hcb
 rw [Xlu] at hcn
 have Hcb:=Qh hcb
 have hlen:=hv.len_le
 clear e1 hg hv hI hsm hcb
 go_enter Tryz.func7,Tryz.ntmps7
 go_wp2_with fail
 refine (Hgr.out _ A0.out.ok).mono ?_
 rintro e1 w1 ⟨rfl,hb1⟩
 have A1:=Qh (A0.out.quiet hb1)
 clear hb1 A0
 go_wp2_with fail
 refine (Hct.out w1 A1.out.ok).mono ?_
 rintro e2 w2 ⟨v2,rfl,ho2,hb2⟩
 obtain ⟨J2,hx2,hok2,hr2,_⟩:=ho2.freeze (A1.out.ok.below (Qn _) hb2) (fun b hb=>A1.out.ok.fresh hb)
 obtain ⟨o2,c2,rfl,_,_,_⟩:=id hr2
 have Hco:=Qh (Xkq J2 _ (cntsB l) hr2 (fun c hc=>by have:=Hcb.out c hc;omega) (by omega) w2 hok2)
 have A2:=Qh (A1.out.quiet hb2)
 clear hb2 ho2 hx2 hok2 hr2 A1 Hct Hcb
 go_wp2_with fail
 refine Hco.out.mono ?_
 rintro e3 w3 ⟨rfl,hb3⟩
 have A3:=Qh (A2.out.quiet hb3)
 clear hb3 A2 Hco
 cases hcol:collP (cntsB l)
 case true=>
  go_wp2_with fail
  refine (Haw.out I (fun _ _ h=>h) _ A3.out.ok).mono ?_
  rintro e4 w4 ⟨rfl,hb4⟩
  have A4:=Qh (A3.out.quiet hb4)
  clear hb4 A3
  go_wp2
  go_ret
  exact ⟨rfl,A4.out.bel⟩
 have HU:=Qh (Xwx hcol)
 clear hcol
 go_upto_region 4 with (
  refine Xab rfl rfl 30 _ _ rfl w3.heap.size 0 [.int .u32 0,.int .i64 0,.int .i64 0,.slice none 0 0] (arcV 0 0 0 (.slice none 0 0)) (by simp [Act.eval]) (by simp [Act.eval]) (by rfl) zeroA 30 (heap_alloc_new _ _) (by simp) (by kernel_rfl) (by simp [Value.oneCell']) #[.int .u32 0,.int .i64 0,.int .i64 0,.slice none 0 0] (by rfl) ?_
  intro w4 hg4 hr4)
 have hb4:Below w3.heap.size w3 w4:=((Qb _ _).alloc (Qn _) _).grown hg4 (by simp) (fun k e=>by injection e with e;omega)
 have A4:=Qh (A3.out.quiet hb4)
 have hf3:I w3.heap.size=none:=A3.out.ok.fresh (Qn _)
 have hs3:=A3.out.size
 have hs4:=(Array.getElem?_eq_some_iff.1 hr4).1
 obtain ⟨B3,hB3⟩:∃B,B=w3.heap.size:=⟨_,rfl⟩
 rw [←hB3] at hr4 hf3 hs4 hs3 ⊢
 have X4:=Qh (show ArB I w4 B3 0 0 0 (.slice none 0 0) [] from ⟨hf3,RdS.nil _ _,hr4⟩)
 clear hg4 hr4 hb4 A3 hB3
 have hO4:=Qh ((Xdj (T:=tWnt) (E:=34) (I:=I) w4).lower (by omega:B3+1≤w4.heap.size))
 have A5:=Qh (A4.out.past (.cells #[] 34))
 have X5:=Qh (X4.out.quiet ((Qb _ _).alloc (Qn _) (.cells #[] 34)))
 have hf4:∀g,(Value.slice (some ⟨w4.heap.size,0,none⟩) 0 0).ownBlock=some g→I g=none:=fun g e=>by
  simp [Value.ownBlock] at e
  subst e
  exact A4.out.ok.fresh (Qn _)
 obtain ⟨w5,hw5⟩:∃w5,w4.alloc (.cells #[] 34)=w5:=⟨_,rfl⟩
 obtain ⟨vw0,hvw0⟩:∃vw0,Value.slice (some ⟨w4.heap.size,0,none⟩) 0 0=vw0:=⟨_,rfl⟩
 rw [hw5] at hO4 A5 X5
 rw [hvw0] at hO4 hf4
 have HW0:=Qh (Xu3 (chunksOf (cntsB l)))
 go_wp2_with fail
 go_loopw [4,5,6,7,8,27] (fun s4 _ _ _ _ s27 wr=> ∃(k:Nat) (J:IH) (L:List Ses) (W:List (List Chg)) (v1:Value),k≤l.length∧s27= .int .i64 k∧MAt I w J wr∧ArB J wr B3 0 0 0 v1 L∧OwnS tWnt 34 I wr (B3+1) s4 W∧(∀g,s4.ownBlock=some g→J g=none)∧ArcOk (totC (l.take k)) k L∧WrR (chunksOf (cntsB l)) W L∧W.length≤k) (fun _ _ _ _ _ i _=>l.length-(intOf i).toNat)
 case atStart=>exact ⟨0,I,[],[],_,Nat.zero_le _,rfl,A5.out,X5.out,hO4.out,hf4,by rw [List.take_zero];exact Xne,HW0.out,Qn _⟩
 case round=>
  clear A5 X5 hO4 hf4 HW0 hw5 hvw0
  obtain ⟨k,J,L,W,v1,hk,rfl,hM,hX,hO,hno,hA,hWR,hWk⟩:=hrel
  have M:=Qh hM
  have X:=Qh hX
  have HO:=Qh hO
  have Hno:=Qh hno
  have HAk:=Qh hA
  have HWR:=Qh hWR
  clear hM hX hO hno hA hWR
  by_cases hlt:k<l.length
  ·obtain ⟨x0,vc,b,off,cap',hlx,hvv,d0,d1,h1⟩:=Xuc Hv.out hw k hlt
   cases hvv
   have hkl:=hlt
   have hmem:x0∈l:=by rw [←hlx];exact List.getElem_mem hlt
   have hcx:=Hsm.out x0 hmem
   have hto:=Xdq hlt hlx
   have hle:=Xi2 l (k+1)
   have hcw:∀c∈x0.chgs,c.Wf∧c.attrs.length≤1000000∧c.content.length≤1000:=fun c h=>⟨(hcx c h).wf,by have:=(hcx c h).nattrs;omega,by have:=(hcx c h).content;omega⟩
   have hwr1:=(fun W' (hW:Ok J W')=>Xge J (HG.out.mono M.out.keep) 0 0 0 L HAk.out x0.chgs (by omega) (by omega) v1 X.out.rd x0.date vc (h1.mono M.out.keep) hcw W' hW)
   have hwa:=Xj3 HAk.out (date:=x0.date) (l:=x0.chgs) (by omega) (by omega) (fun c h=>(hcw c h).2.2)
   have hwr:=Xu4 HAk.out HU.out HWR.out (date:=x0.date) (l:=x0.chgs) (by omega) (by omega) (fun c h=>⟨(hcw c h).2.2,Xr9 (Xt3 hmem h)⟩)
   obtain ⟨L2,cnt,rn,hL2⟩:∃L2 cnt rn,wrtP L x0.date x0.chgs=(L2,cnt,rn):=⟨_,_,_,rfl⟩
   rw [hL2] at hwr1 hwa hwr
   dsimp only [RetWr] at hwr1 hwa hwr
   have Hwr:=Qh hwr1
   have Hwa:=Qh (show ArcOk (totC (l.take (k+1))) (k+1) L2 by rw [hto];exact hwa)
   have Hwrr:=Qh hwr
   obtain ⟨so,sc,rfl,_,_,_⟩:=id X.out.rd
   obtain ⟨oc,cc,rfl,_,_,_⟩:=id h1
   have hcl:=h1.len_le
   have D1:=Qh d1
   have c0:=Xaa M.out.bel d0
   have c1:=Xaa M.out.bel D1.out
   have H1:=Qh h1
   obtain ⟨z0,z1,z2,z3⟩:=Xag X.out.row
   have HWRk:=HWR
   clear hL2 hcx hcw hlx h1 hwr1 hwa hwr d0 d1 hmem HAk HWR
   go_wp2_with fail
   refine Xah (X:=(Option Addr × Nat) × Nat) (naL so L.length sc b off l.length cap k x0.date oc x0.chgs.length cc L2 cnt rn) (RgE wr 11 241 232 242 16 243 234 244 (fun x w=>x.2<w.heap.size∧J x.2=none) (fun x w=> ∃J',Ext wr.heap.size J J'∧Ok J' w∧RdS tSes J' (.slice x.1.1 L2.length x.1.2) L2∧J' x.2=none) (fun _ _=>True) (fun x w=>w.heap[x.2]? =some (.cells zeroA 30 (0,0))∧wr.heap.size≤x.2) (fun _ _=>True) (fun x w=>(∃J',Ext wr.heap.size J J'∧Ok J' w∧RdS tSes J' (.slice x.1.1 L2.length x.1.2) L2∧J' x.2=none)∧(w.heap[x.2]? =some (.cells zeroA 30 (0,0))∧wr.heap.size≤x.2)) (fun x=>x.2) 30 17 221 222 (fun x=> #[.int .u32 0,.int .i64 0,.int .i64 0,.slice x.1.1 L2.length x.1.2]) (fun x=> #[.int .u32 0,.int .i64 0,.int .i64 0,.slice x.1.1 L2.length x.1.2]) (fun x=> #[.int .u32 0,.int .i64 0,.int .i64 0,.slice x.1.1 L2.length x.1.2])) (by kernel_rfl) (by kernel_rfl) ?_ ?_ ?_
   ·exact ⟨(default,B3),RgE.start _ _ ⟨X.out.lt,X.out.no⟩⟩
   ·rintro x s' a' w' i hsz hcl ha hC hi
    obtain ⟨hun,oi,hoi,hall⟩:=mem_ready.1 hi
    have ev:=Xcv Xc6 ha
    have hlt:=Xcy hun
    rcases i with _|_|_|_|_|_|_|_|_|_|_|_|_|_|_|_|_|_|_|_|i
    rotate_left 20
    ·simp at hoi
    all_goals
     have hoj:=hoi
     simp at hoi
     subst hoi
     simp [Region.binds] at hall
     try have hl:=Xas 6 17 hcl (by decide +kernel) hun
     try have hbw:=hC.off hl
     try have z0:=Xaa hbw z0
     try have z1:=Xaa hbw z1
     try have z2:=Xaa hbw z2
     try have z3:=Xaa hbw z3
     try have c0:=Xaa hbw c0
     try have c1:=Xaa hbw c1
     refine wpOp_step hoj (fun K' hK=> ?_)
     rw [if_pos (by rfl)]
    rotate_left 11
    ·unfold Oper.wp
     simp [go_sem,ev,evF,hall,Oper.upon]
     refine (Hwr.out w' (M.out.ok.below (Qn _) hbw)).mono ?_
     rintro r4 w4 ⟨v7,J7,rfl,hb4,hx7,hok7,hr7⟩
     obtain ⟨a7,k7,rfl,_,_,_⟩:=id hr7
     have ha:=ha.trans (Xav (L:=naL so L.length sc b off l.length cap k x0.date oc x0.chgs.length cc L2 cnt rn x) (M:=naL so L.length sc b off l.length cap k x0.date oc x0.chgs.length cc L2 cnt rn ((a7,k7),x.2)) [11,12,13] rfl (fun j hne=>by
      rcases j with _|_|_|_|_|_|_|_|_|_|_|_|_|_|_|_|_|_|_|_|j<;>first|rfl|(exact absurd (by decide) hne)|simp) (List.forall_mem_cons.2 ⟨Xao hun,List.forall_mem_cons.2 ⟨Xas 6 12 hcl (by kernel_rfl) hun,List.forall_mem_cons.2 ⟨Xas 6 13 hcl (by kernel_rfl) hun,List.forall_mem_nil _⟩⟩⟩))
     exact hK _ _ ⟨((a7,k7),x.2),Xan Xc6 ha rfl hun,hC.step hl (hbw.trans (hb4.mono hbw.size)) (by decide) (fun h=>⟨Nat.lt_of_lt_of_le h.1 hb4.size,h.2⟩) (fun _ _=>⟨J7,fun b hb=>hx7 b (Nat.lt_of_lt_of_le hb hbw.size),hok7,hr7,(hx7 _ (hC.inv hl).1).trans (hC.inv hl).2⟩) (fun _ _=>trivial) (fun h _=>h.elim (fun e=>absurd e (by decide)) (fun ⟨_,_,q⟩=>⟨(hb4.block _ (Array.getElem?_eq_some_iff.1 q.1).1).trans q.1,q.2⟩)) (fun _ _=>trivial) hlt⟩
    rotate_left 4
    ·unfold Oper.wp
     simp [go_sem,ev,evF,hall,Oper.upon,z0,z1,z2,z3,c0,c1,hkl]
     have ha:=ha.trans (Xav (L:=naL so L.length sc b off l.length cap k x0.date oc x0.chgs.length cc L2 cnt rn x) (M:=naL so L.length sc b off l.length cap k x0.date oc x0.chgs.length cc L2 cnt rn (x.1,w'.heap.size)) [16] rfl (fun j hne=>by
      rcases j with _|_|_|_|_|_|_|_|_|_|_|_|_|_|_|_|_|_|_|_|j<;>first|rfl|(exact absurd (by decide) hne)|simp) (List.forall_mem_cons.2 ⟨Xao hun,List.forall_mem_nil _⟩))
     exact hK _ _ ⟨(x.1,w'.heap.size),Xan Xc6 ha rfl hun,hC.step hl (hbw.trans (((Qb _ _).alloc (Qn _) _).mono hbw.size)) (by decide) (fun _=>⟨by simp,M.out.ok.fresh hbw.size⟩) (fun h _=>h.elim (fun e=>absurd e (by decide)) (fun ⟨_,_,q⟩=>(q.elim fun J9 h9=>⟨J9,h9.1,h9.2.1.below (Qn _) ((Qb w'.heap.size w').alloc (Qn _) (.cells zeroA 30)),h9.2.2.1,h9.2.1.fresh (Qn _)⟩))) (fun _ _=>trivial) (fun _ _=>⟨heap_alloc_new _ _,hbw.size⟩) (fun _ _=>trivial) hlt⟩
    ·have hrow:w'.heap[x.2]? =some (.cells _ 30 (0,0)):=(hC.f3 (by first|simpa using hall|simp [hall]) (Xak (by simp [hsz])) hl).1
     refine Xaj 30 _ _ rfl (x.2) 0 [.int .u32 0,.int .i64 0,.int .i64 0,.slice x.1.1 L2.length x.1.2] (arcV 0 0 0 (.slice x.1.1 L2.length x.1.2)) (by simp [Act.eval,ev,evF,hall]) (by simp [Act.eval,ev,evF,hall]) (by rfl) _ _ hrow (by simp) (by kernel_rfl) (by simp [Value.oneCell']) ?_
     exact hK _ _ ⟨x,Xad (d:=none) (v:=undef) Xc6 ha rfl hun,hC.put1 hun ⟨hC.f1 (by first|simpa using hall|simp [hall]) (Xak (by simp [hsz])) hl,hC.f3 (by first|simpa using hall|simp [hall]) (Xak (by simp [hsz])) hl⟩ (Xak (by simp [hsz])) (Xak (by simp [hsz])) (by decide) hrow (by rfl)⟩
    all_goals
     unfold Oper.wp
     first
     |(simp [go_sem,ev,evF,hall,Oper.upon,z0,z1,z2,z3,c0,c1,hkl];exact hK _ _ ⟨x,Xan Xc6 ha rfl hun,hC.pure (by decide)⟩)
     |(simp [go_sem,ev,evF,Oper.upon,z0,z1,z2,z3,c0,c1,hkl];exact hK _ _ ⟨x,Xan Xc6 ha rfl hun,hC.pure (by decide)⟩)
   ·rintro x s' a' w6 hup ha hC
    obtain ⟨wb,hbW,hFin,hgr,hrow⟩:=hC.on (hup 17 (by decide))
    simp only [ite_self] at hrow
    rw [Xa1 _ _ _ _ (fun i hi=>by rw [Nat.zero_add];exact hup i (by simpa using hi))] at ha
    subst ha
    simp only [fillAll,Act.put,List.setIfInBounds_toArray,List.set_cons_succ,List.set_cons_zero]
    obtain ⟨⟨a6,k6⟩,bx6⟩:=x
    dsimp only at hFin hgr hrow ⊢
    obtain ⟨⟨J9,hx9,hok9,hr9,hn9⟩,hbox,hbl⟩:=hFin
    have hlb1:=X.out.lt
    have hwz:=M.out.size
    have M6:=Qh ((M.out.ext hbW hx9 hok9).own hgr hn9 (by omega))
    have X6:=Qh ((X.out.ext M.out.ok hbW hx9).own hgr (by omega:B3≠bx6))
    have N6:=Qh (show ArB J9 w6 bx6 0 0 0 (.slice a6 L2.length k6) L2 from ⟨hn9,hr9,hrow⟩)
    have hob6:u4.ownBlock≠some bx6:=HO.out.ne_ge hbl
    have HO6:=Qh ((HO.out.below hbW).kept hgr (.inr hob6))
    have Hno6:=Qh (fun g e=>(hx9 g (Xbn HO.out e).2).trans (Hno.out g e):∀g,u4.ownBlock=some g→J9 g=none)
    have hb36:B3≠bx6:=by omega
    clear M X hbW hgr hrow hx9 hok9 hr9 z0 z1 z2 z3 c0 c1 Hwr hC hup hbox hbl hn9 HO Hno
    by_cases h0:rn=0
    ·have hwr2:=Qh (Hwrr.out.1 h0)
     subst h0
     have c1:=Xaa M6.out.bel D1.out
     clear Hwrr
     have hob3:u4.ownBlock≠some B3:=HO6.out.ne_lt (by omega)
     have hl6:=X6.out.lt
     go_upto_region 11 with (
      at_builtin
      refine Xbi Xsr rfl _ _ rfl (B:=B3+1) rfl (HO6.out.alloc _) (vx:= .slice (some ⟨w6.heap.size,0,none⟩) 1 1) (by simp [Act.eval]) (SrcS.of_one (T:=tWnt) (x:=x0.chgs) (cs:= [.slice oc x0.chgs.length cc]) ⟨_,rfl,H1.out⟩ (fun j u hu=>by rw [World.cell?_alloc_new];simpa using hu)) (by simp;omega) (by simp;omega) (by simp;omega) ?_
      intro v7 w7 ho7 hg7 hl7)
     have M7:=Qh ((M6.out.past (.cells #[.slice oc x0.chgs.length cc] 34)).ownS hg7 (fun g e=>⟨Hno6.out g e,by have:=HO6.out.own_ge e;omega⟩))
     have X7:=Qh ((X6.out.quiet ((Qb _ _).alloc (Qn _) (.cells #[.slice oc x0.chgs.length cc] 34))).ownS hg7 hob3)
     have N7:=Qh ((N6.out.quiet ((Qb _ _).alloc (Qn _) (.cells #[.slice oc x0.chgs.length cc] 34))).ownS hg7 hob6)
     have HO7:=Qh ho7
     have Hno7:=Qh (fun g e=>(hl7 g e).elim (Hno6.out g) (fun q=>M6.out.ok.fresh (by simp at q;omega)):∀g,v7.ownBlock=some g→J9 g=none)
     clear ho7 hg7 hl7 M6 X6 N6 HO6 Hno6 c1
     obtain ⟨y0,y1,y2,y3⟩:=Xag N7.out.row
     have hr3:=X7.out.row
     go_wp2_with (refine Xab rfl rfl 30 _ _ rfl B3 0 [.int .u32 0,.int .i64 0,.int .i64 0,.slice a6 L2.length k6] (arcV 0 0 0 (.slice a6 L2.length k6)) (by simp [Act.eval]) (by simp [Act.eval]) (by rfl) _ 30 hr3 (by simp) (by kernel_rfl) (by simp [Value.oneCell']) #[.int .u32 0,.int .i64 0,.int .i64 0,.slice a6 L2.length k6] (by rfl) ?_
                  intro w8 hg8 hr8)
     go_roundw
     case rel=>exact ⟨k+1,J9,L2,(W++ [x0.chgs]),_,by omega,by go_num,M7.out.own hg8 X7.out.no (by omega),⟨X7.out.no,N7.out.rd,hr8⟩,HO7.out.kept hg8 (.inr (HO7.out.ne_lt (by omega))),Hno7.out,Hwa.out,hwr2.out,by (try simp only [List.length_append,List.length_singleton]);omega⟩
     case measure=>simp [intOf];omega
    ·have i1:(rn==0)=false:=by simpa using h0
     have i1b:(rn != 0)=true:=by simpa using h0
     have i1c:decide (rn=0)=false:=Qf h0
     obtain rfl:=Hwrr.out.2 h0
     have hwr2:=Qh HWRk.out
     clear Hwrr h0
     go_upto_region 11 with fail
     obtain ⟨y0,y1,y2,y3⟩:=Xag N6.out.row
     have hr3:=X6.out.row
     go_wp2_with (refine Xab rfl rfl 30 _ _ rfl B3 0 [.int .u32 0,.int .i64 0,.int .i64 0,.slice a6 L2.length k6] (arcV 0 0 0 (.slice a6 L2.length k6)) (by simp [Act.eval]) (by simp [Act.eval]) (by rfl) _ 30 hr3 (by simp) (by kernel_rfl) (by simp [Value.oneCell']) #[.int .u32 0,.int .i64 0,.int .i64 0,.slice a6 L2.length k6] (by rfl) ?_
                  intro w8 hg8 hr8)
     go_roundw
     case rel=>exact ⟨k+1,J9,L2,W,_,by omega,by go_num,M6.out.own hg8 X6.out.no (by omega),⟨X6.out.no,N6.out.rd,hr8⟩,HO6.out.kept hg8 (.inr (HO6.out.ne_lt (by omega))),Hno6.out,Hwa.out,hwr2.out,by (try simp only [List.length_append,List.length_singleton]);omega⟩
     case measure=>simp [intOf];omega
  ·have hke:k=l.length:=by omega
   subst hke
   rw [List.take_length] at HAk
   obtain ⟨J',hkeep,_,hok',hrW,hne'⟩:=(HO.out.mono M.out.keep).freezeA M.out.ok Hno.out
   have M1:=Qh (show MAt I w J' wr from ⟨hok',fun b c h=>hkeep b c (M.out.keep b c h),M.out.bel⟩)
   have X1:=Qh (show ArB J' wr B3 0 0 0 v1 L from ⟨(hne' B3 (HO.out.ne_lt (by omega))).trans X.out.no,X.out.rd.mono hkeep,X.out.row⟩)
   have HW:=Qh hrW
   obtain ⟨oW,cW,rfl,_,_,_⟩:=id hrW
   obtain ⟨so,sc,rfl,_,_,_⟩:=id X1.out.rd
   have hLW:=HWR.out.len
   have hLl:L.length≤4:=by have:=HAk.out.len;omega
   have i1:(((L.length:Nat):Int) != (W.length:Int))=false:=by rw [hLW];simp
   have z3:=(Xag X1.out.row).2.2.2
   clear hkeep hok' hrW hne' M X HO Hno Hsm HA
   have HLW:=Qh hLW
   clear hLW
   go_wp2_with fail
   clear i1 z3
   go_loopw [9,10,11,12,13,66] (fun _ _ _ _ _ s66 wr=> ∃k:Nat,k≤W.length∧s66= .int .i64 k∧MAt I w J' wr∧ArB J' wr B3 0 0 0 (.slice so L.length sc) L) (fun _ _ _ _ _ i _=>W.length-(intOf i).toNat)
   case atStart=>exact ⟨0,Nat.zero_le _,rfl,M1.out,X1.out⟩
   case round=>
    clear M1 X1
    obtain ⟨i,hi,rfl,hM,hX⟩:=hrel
    have M:=Qh hM
    have X:=Qh hX
    clear hM hX
    by_cases hit:i<W.length
    ·have hiL:i<L.length:=by rw [HLW.out];exact hit
     obtain ⟨x,ve,b,off,cap',hlx,hvv,⟨u0,u1,u2,u3,u4,u5⟩,hve⟩:=Xfn X.out.rd M.out.ok i hiL
     cases hvv
     obtain ⟨m,vcm,b',off',cap'',hlm,hvv,q0,hvm⟩:=Xx4 HW.out M.out.ok i hit
     cases hvv
     have hER:=HWR.out.ents i hiL hit
     rw [hlx,hlm] at hER
     have hem:=hER.len
     have HER:=Qh hER
     have HE:=Qh hve
     have HM:=Qh hvm
     obtain ⟨oe,pe,rfl,_,_,_⟩:=id hve
     obtain ⟨om,pm,rfl,_,_,_⟩:=id hvm
     have hxl:=hve.len_le
     have hml:=hvm.len_le
     have i1:(((x.ents.length:Nat):Int) != (m.length:Int))=false:=by rw [hem];simp
     have Hem:=Qh hem
     have Q0:=Qh q0
     have U3:=Qh u3
     have z3:=cell_regrown (Xag X.out.row).2.2.2
     have q1:=cell_regrown q0
     have u6:=cell_regrown u3
     clear hlx hlm hER hem hve hvm u0 u1 u2 u3 u4 u5 q0
     go_wp2_with fail
     refine wp_region_quiet_below (by kernel_rfl) (by kernel_rfl) ?_
     repeat (go_big_quiet_step ((fail)))
     refine wpQuiet_nil ?_
     intro w2 hwq
     have hb2:Below (wr).heap.size (wr) w2:=by
      obtain ⟨pq,rfl⟩:=hwq
      exact below_regrown _ _ _
     clear hwq
     have M2:=Qh (M.out.quiet hb2)
     have X2:=Qh (X.out.quiet hb2)
     have q0:=Qh (Xaa hb2 Q0.out)
     have u3:=Xaa hb2 U3.out
     clear z3 q1 u6 M X Q0 U3 hb2
     have z3:=(Xag X2.out.row).2.2.2
     go_wp2_with fail
     clear u3 z3 i1
     have B2:=Qh (Qb w2.heap.size w2)
     have Q2:=q0
     clear q0
     go_loopw [10,11,12,13,89] (fun _ _ _ _ s89 wr=> ∃j:Nat,j≤x.ents.length∧s89= .int .i64 j∧Below w2.heap.size w2 wr) (fun _ _ _ _ i _=>x.ents.length-(intOf i).toNat)
     case atStart=>exact ⟨0,Nat.zero_le _,rfl,B2.out⟩
     case round=>
      clear B2
      obtain ⟨j,hj,rfl,hb⟩:=hrel
      have M3:=Qh (M2.out.quiet hb)
      have X3:=Qh (X2.out.quiet hb)
      have Hb:=Qh hb
      by_cases hjt:j<x.ents.length
      ·have hjm:j<m.length:=by rw [←Hem.out];exact hjt
       obtain ⟨e,va,vx,b1,off1,cap1,hle,hvv,⟨d0,d1,d2,d3,d4,d5,d6⟩,hva,hvx⟩:=Xeu HE.out M3.out.ok j hjt
       cases hvv
       obtain ⟨c,vca,b4,off4,cap4,hlc,hvv,⟨e0,e1,e2,e3,e4⟩,hvca⟩:=Xsa HM.out M3.out.ok j hjm
       cases hvv
       have hr:=HER.out.at_ j hjt hjm
       rw [hle,hlc] at hr
       have HR:=Qh hr
       obtain ⟨oa,pa,rfl,_,_,_⟩:=id hva
       obtain ⟨ox,px,rfl,_,_,_⟩:=id hvx
       have HX:=Qh hvx
       clear hle hlc hr hvca
       go_upto_region 23 with (
        refine Xab rfl rfl 68 _ _ rfl wr.heap.size 0 (entCs e (.slice oa e.attrs.length pa) (.slice ox e.exts.length px)) (entV e (.slice oa e.attrs.length pa) (.slice ox e.exts.length px)) (by simp [Act.eval]) (by simp [Act.eval]) (by rfl) zeroRow 68 (heap_alloc_new _ _) (by simp) (by kernel_rfl) (by simp [Value.oneCell']) (entRow e (.slice oa e.attrs.length pa) (.slice ox e.exts.length px)) (by rfl) ?_
        intro w4 hg4 hr4)
       have hb4:Below wr.heap.size wr w4:=((Qb _ _).alloc (Qn _) _).grown hg4 (by simp) (fun k e=>by injection e with e;omega)
       have M4:=Qh (M3.out.quiet hb4)
       have X4:=Qh (X3.out.quiet hb4)
       have HB4:=Qh hb4
       obtain ⟨BE,hBE⟩:∃B,B=wr.heap.size:=⟨_,rfl⟩
       rw [←hBE] at hr4 ⊢
       have E4:=Qh (entB_row (e:=e) hr4)
       have hstr:∀s∈strsP L,s.length≤9223372036854775807:=fun s hs=>by
        obtain ⟨y,hy,rfl⟩:=List.mem_map.1 hs
        obtain ⟨n,hn,he⟩:=List.getElem_of_mem hy
        have:=(HAk.out.at_ hn he).stream
        omega
       have hge:=Xn4 HR.out.rd (by have:=HR.out.small;omega)
       have Hget:=Qh (fun J7 (hk:∀b c,J' b=some c→J7 b=some c) vs (hvs:RdS tStr J7 vs (strsP L)) W' (hW:Ok J7 W')=>(by
        have h:=Xuw J7 vs (.slice ox e.exts.length px) (strsP L) e.exts hvs (HX.out.mono hk) hstr W' hW
        rw [hge] at h
        exact h:Calls Tryz.prog 30 #[vs,.slice ox e.exts.length px] W' (fun r w'=>r= .returned (.tuple #[S c.content,.int .i64 0])∧Below W'.heap.size W' w')))
       obtain ⟨z0,z1,z2,z3⟩:=Xag X4.out.row
       have y6:=E4.out.c6
       have EE0:=Qh e0
       have EE1:=Qh e1
       have EE4:=Qh e4
       clear hg4 hr4 hb4 hBE hstr hge d0 d1 d2 d3 d4 d5 d6 e0 e1 e2 e3 e4 hva hvx X3
       go_wp2_with fail
       refine Xah (X:=Option Addr × Nat) (nbL (some ⟨b,off,none⟩) L.length sc ((strsP L).length) BE ox e.exts.length px c.content) (RgF w4 1 222 223 224 (fun x w=>OwnS tStr 9 J' w w4.heap.size (.slice x.1 (strsP L).length x.2) (strsP L)) (fun _ _=>True) (fun _ _=>True) (fun _ _=>True)) (by kernel_rfl) (by kernel_rfl) ?_ ?_ ?_
       ·exact ⟨default,RgF.start _ _⟩
       ·rintro x s' a' w' i hsz hcl ha hC hi
        obtain ⟨hun,oi,hoi,hall⟩:=mem_ready.1 hi
        have ev:=Xcv Xdy ha
        rcases i with _|_|_|_|_|_|_|_|_|_|i
        rotate_left 10
        ·simp at hoi
        all_goals
         have hoj:=hoi
         simp at hoi
         subst hoi
         simp [Region.binds] at hall
         have hbw:=hC.off
         have z0:=Xaa hbw z0
         have z1:=Xaa hbw z1
         have z2:=Xaa hbw z2
         have z3:=Xaa hbw z3
         have y6:=Xaa hbw y6
         refine wpOp_step hoj (fun K' hK=> ?_)
         first|rw [if_pos (by rfl)]
        rotate_left 1
        ·unfold Oper.wp
         simp [go_sem,ev,evF,hall,Oper.upon]
         refine (Xm3 J' 0 0 0 L (by omega) _ X4.out.rd w' (M4.out.ok.below (Qn _) hbw)).mono ?_
         rintro r4 w4 ⟨v7,rfl,ho,hb4⟩
         obtain ⟨a7,k7,rfl⟩:=Xbl ho
         have ha:=ha.trans (Xav (L:=nbL (some ⟨b,off,none⟩) L.length sc ((strsP L).length) BE ox e.exts.length px c.content x) (M:=nbL (some ⟨b,off,none⟩) L.length sc ((strsP L).length) BE ox e.exts.length px c.content (a7,k7)) [1] rfl (fun j hne=>by
          rcases j with _|_|_|_|_|_|_|_|_|_|j<;>first|rfl|(exact absurd (by decide) hne)|simp) (List.forall_mem_cons.2 ⟨Xao hun,List.forall_mem_nil _⟩))
         exact hK _ _ ⟨(a7,k7),Xan Xdy ha rfl hun,hC.step (hbw.trans (hb4.mono hbw.size)) (fun _=>ho.lower hbw.size) (fun _=>trivial) (fun _=>trivial) (fun _=>trivial)⟩
        rotate_left 2
        ·have hOw:=hC.f1 (by first|simpa using hall|simp [hall])
         obtain ⟨J7,hx7,hok7,hr7,_⟩:=hOw.freeze (M4.out.ok.below (Qn _) hbw) (fun b hb=>M4.out.ok.fresh hb)
         unfold Oper.wp
         simp [go_sem,ev,evF,hall,Oper.upon]
         refine (Hget.out J7 (hx7.keep M4.out.ok (Qn _)) _ hr7 w' hok7).mono ?_
         rintro r4 w4 ⟨rfl,hb4⟩
         exact hK _ _ ⟨x,Xan Xdy ha rfl hun,hC.step (hbw.trans (hb4.mono hbw.size)) (fun q=>q.elim (fun e=>absurd e (by decide)) (fun ⟨_,q⟩=>q.below hb4)) (fun _=>trivial) (fun _=>trivial) (fun _=>trivial)⟩
        all_goals
         unfold Oper.wp
         first
         |(simp [go_sem,ev,evF,hall,Oper.upon,z0,z1,z2,z3,y6];exact hK _ _ ⟨x,Xan Xdy ha rfl hun,hC.pure (by decide)⟩)
         |(simp [go_sem,ev,evF,Oper.upon,z0,z1,z2,z3,y6];exact hK _ _ ⟨x,Xan Xdy ha rfl hun,hC.pure (by decide)⟩)
       ·rintro x s' a' w5 hup ha hC
        rw [Xa1 _ _ _ _ (fun i hi=>by rw [Nat.zero_add];exact hup i (by simpa using hi))] at ha
        subst ha
        simp only [fillAll,Act.put,List.setIfInBounds_toArray,List.set_cons_succ,List.set_cons_zero]
        have hb5:=hC.off
        have E5:=E4.out.thru hb5
        have y0:w5.cell? ⟨BE,0,none⟩=some (.int .i64 c.kind):=by rw [←HR.out.kind];exact E5.c0
        have y1:w5.cell? ⟨BE,1,none⟩=some (S c.path):=by rw [←HR.out.path];exact E5.c1
        have y4:w5.cell? ⟨BE,4,none⟩=some (.int .i64 (c.content.length:Int)):=by rw [←HR.out.size];exact E5.c4
        have hb35:Below wr.heap.size wr w5:=HB4.out.trans (hb5.mono HB4.out.size)
        have hb25:Below w2.heap.size w2 w5:=Hb.out.trans (hb35.mono Hb.out.size)
        have q1:=cell_regrown (Xaa hb25 Q2.out)
        have k0:=cell_regrown (Xaa hb35 EE0.out)
        have k1:=cell_regrown (Xaa hb35 EE1.out)
        have k4:=cell_regrown (Xaa hb35 EE4.out)
        have y0:=cell_regrown y0
        have y1:=cell_regrown y1
        have y4:=cell_regrown y4
        have HB:=Qh hb25
        clear hC hup hb5 E5 hb35 hb25 z0 z1 z2 z3 y6 EE0 EE1 EE4 Hget M4 X4 E4
        go_wp2_with fail
        refine wp_region_quiet_below (by kernel_rfl) (by kernel_rfl) ?_
        repeat (first|go_big_quiet_step (fail)|refine BigFrame.wpQuiet_skip (by rfl) ?_)
        refine wpQuiet_nil ?_
        intro w6 hwq
        have hb6:Below w5.heap.size w5 w6:=by
         obtain ⟨pq,rfl⟩:=hwq
         exact below_regrown _ _ _
        clear hwq
        go_wp2_with fail
        go_roundw
        case rel=>exact ⟨j+1,by omega,by go_num,HB.out.trans (hb6.mono HB.out.size)⟩
        case measure=>simp [intOf];omega
      ·go_wp2
       go_roundw
       case rel=>exact ⟨i+1,by omega,by go_num,M3.out,X3.out⟩
       case measure=>simp [intOf];omega
    ·have A5:=Qh M.out
     clear M X
     go_wp2_with fail
     refine (Haw.out J' A5.out.keep _ A5.out.ok).mono ?_
     rintro e6 w6 ⟨rfl,hb6⟩
     have A6:=Qh (A5.out.quiet hb6)
     clear hb6 A5
     go_wp2
     go_ret
     exact ⟨rfl,A6.out.bel⟩
end Go.Proofs.YtjdednajelommaaGreatDoor
