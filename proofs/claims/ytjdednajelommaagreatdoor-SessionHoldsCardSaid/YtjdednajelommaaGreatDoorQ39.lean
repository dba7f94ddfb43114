/-
  Walks and laws that the claim's theorem uses: texts SoI SoC, joined; comments out. Conditions: as each theorem says.
-/
import Derived.Test.YtjdednajelommaaGreatDoorQ37
set_option linter.unusedSimpArgs false
set_option linter.unusedVariables false
namespace Go.Proofs.YtjdednajelommaaGreatDoor
open Go.RowKit Lib
theorem Xub:(Tryz.prog.info? 36).map (fun i=>(i.zero,i.size,i.bytes))=some (some (.agg #[.int .i64 0,.slice none 0 0]),2,32):=by kernel_rfl
theorem Xom:ElemOk Tryz.prog 22 36 tBat 32:=ElemOk.of Tryz.underlying22 Xub rfl (by decide) rfl
theorem Xxa {l:List Bat} {cs:List Chg} (h:∀b∈l,b.In) (hc:∀c∈cs,c.In):∀b∈l++ [⟨0,cs⟩],b.In:=fun b hb=>by
 rcases List.mem_append.1 hb with hb|hb
 ·exact h b hb
 ·rw [List.mem_singleton.1 hb];exact ⟨by show (-9223372036854775808:Int)≤0;omega,by show (0:Int)≤9223372036854775807;omega,hc⟩
abbrev nuL (n:Nat) (p:Bytes) (c:UInt8) (x:Nat):List (Option Tmp × Value):=
 [(some 10,.int .i64 (n:Int)),(some 11,.int .i64 ((n:Int) / 10)),(some 12,S p),(some 13,.int .i64 (n:Int)),(some 14,.int .i64 ((n:Int)%10)),(some 15,.int .i64 (48+(n:Int)%10)),(some 16,.int .u8 (48+(n:Int)%10)),(some 17,.slice (some ⟨x,0,none⟩) 1 1),(some 18,S [c]),(some 19,S (p++ [c])),(some 2,S (p++ [c]))]
end Go.Proofs.YtjdednajelommaaGreatDoor
namespace Go.Proofs.YtjdednajelommaaGreatDoor
open Go.RowKit
def cntsB (l:List Bat):List Bytes:=(l.map fun b=>b.chgs.map fun c=>c.content).flatten
theorem Xlv (a b:List Bat):cntsB (a++b)=cntsB a++cntsB b:=by unfold cntsB;rw [List.map_append,List.flatten_append]
theorem Xps {l:List Bat} {k:Nat} (hk:k<l.length) {x:Bat} (hx:l[k]=x):cntsB (l.take (k+1))=cntsB (l.take k)++(x.chgs.map fun c=>c.content):=by
 rw [List.take_succ_eq_append_getElem hk,hx,Xlv]
 simp [cntsB]
theorem Xlu (l:List Bat):(cntsB l).length=totC l:=by
 unfold cntsB totC
 rw [List.length_flatten,List.map_map]
 congr 1
 simp
theorem Xq6 {l:List Chg} {k:Nat} (hk:k<l.length) {x:Chg} (hx:l[k]=x):((l.take (k+1)).map fun c=>c.content)=((l.take k).map fun c=>c.content)++ [x.content]:=by
 rw [List.take_succ_eq_append_getElem hk,hx,List.map_append]
 rfl
theorem Xp5 {l:List Bat} {k:Nat} (hk:k<l.length) {x:Bat} (hx:l[k]=x):totC (l.take k)+x.chgs.length≤totC l:=by
 rw [←Xdq hk hx]
 exact Xi2 l (k+1)
set_option maxRecDepth 100000 in
set_option maxHeartbeats 1000000 in
theorem Xkp (I:IH) (v:Value) (l:List Bat) (hv:RdS tBat I v l) (ht:totC l≤100000) (w:World) (hw:Ok I w):
 Calls Tryz.prog 29 #[v] w fun e w'=> ∃v',e= .returned v'∧OwnS tStr 9 I w' w.heap.size v' (cntsB l)∧Below w.heap.size w w':=by
 have hlen:=hv.len_le
 obtain ⟨ao,cap,rfl,_,_,_⟩:=id hv
 have Hv:=Qh hv
 clear hv
 have hO0:=Qh (Xdj (T:=tStr) (E:=9) (I:=I) w)
 have hb0:Below w.heap.size w (w.alloc (.cells #[] 9)):=(Qb _ _).alloc (Qn _) _
 go_enter Tryz.func29,Tryz.ntmps29
 go_wp2_with fail
 go_loopw [3,4,5] (fun s3 s4 _ wr=> ∃k:Nat,k≤l.length∧s4= .int .i64 k∧OwnS tStr 9 I wr w.heap.size s3 (cntsB (l.take k))∧Below w.heap.size w wr) (fun _ i _ _=>l.length-(intOf i).toNat)
 case atStart=>exact ⟨0,Nat.zero_le _,rfl,hO0.out,hb0⟩
 case round=>
  clear hb0 hO0
  obtain ⟨k,hk,rfl,hO,hb⟩:=hrel
  have HO:=Qh hO
  have hwr:Ok I wr:=hw.below (Qn _) hb
  clear hO
  by_cases hlt:k<l.length
  ·obtain ⟨x,vc,b,off,cap',hlx,hvv,c0,c1,h1⟩:=Xuc Hv.out hw k hlt
   cases hvv
   have hcl:=h1.len_le
   have Hlx:=Qh hlx
   have H1:=Qh h1
   have Htot:=Qh (Xp5 hlt hlx)
   obtain ⟨oc,cc,rfl,_,_,_⟩:=id h1
   have C1:=Qh c1
   clear c1
   have c1:=Xaa hb C1.out
   clear hlx h1 c0
   go_wp2_with fail
   go_loopw [3,5] (fun s3 s5 wr=> ∃j:Nat,j≤x.chgs.length∧s5= .int .i64 j∧OwnS tStr 9 I wr w.heap.size s3 (cntsB (l.take k)++((x.chgs.take j).map fun c=>c.content))∧Below w.heap.size w wr) (fun _ i _=>x.chgs.length-(intOf i).toNat)
   case atStart=>exact ⟨0,Nat.zero_le _,rfl,by simpa using HO.out,hb⟩
   case round=>
    clear HO hb hwr c1
    obtain ⟨j,hj,rfl,hO,hb⟩:=hrel
    have HO:=Qh hO
    have hwr:Ok I wr:=hw.below (Qn _) hb
    clear hO
    have c1:=Xaa hb C1.out
    by_cases hjt:j<x.chgs.length
    ·obtain ⟨c,va,b2,off2,cap2,hlc,hvv2,⟨g0,g1,g2,g3,g4⟩,h2⟩:=Xsa H1.out hwr j hjt
     cases hvv2
     have Hst:=Qh (Xq6 hjt hlc)
     have Htot:=Htot
     have Hlen:=Qh (show (cntsB (l.take k)++((x.chgs.take j).map fun c=>c.content)).length=totC (l.take k)+j by rw [List.length_append,Xlu,List.length_map,List.length_take];omega)
     have hto:=Htot.out
     have hs1:=hb.size
     clear hlc h2
     go_wp2_with (at_builtin
                  refine Xat (w0:=wr) Xb7 rfl _ _ rfl w.heap.size _ _ rfl HO.out c.content [S c.content] _ (by first|rfl|simp [Act.eval]) rfl (by rw [Hlen.out];omega) (by rw [Hlen.out];omega) (by omega) ?_
                  intro v5 w5 ho5 hg5)
     have hb9:=Below.own hb hg5 HO.out (Qn _) hs1
     go_roundw
     case rel=>exact ⟨j+1,by omega,by go_num,by rw [Hst.out,←List.append_assoc];exact ho5,hb9⟩
     case measure=>simp [intOf];omega
    ·have hje:j=x.chgs.length:=by omega
     subst hje
     rw [List.take_length] at HO
     have Hst:=Qh (Xps hlt Hlx.out)
     go_wp2
     go_roundw
     case rel=>exact ⟨k+1,by omega,by go_num,by rw [Hst.out];exact HO.out,hb⟩
     case measure=>simp [intOf];omega
  ·have hke:k=l.length:=by omega
   subst hke
   rw [List.take_length] at HO
   go_wp2
   go_ret
   exact ⟨_,rfl,HO.out,hb⟩
theorem gr_c {l:List Bat} {k j:Nat} (hk:k<l.length) {x:Bat} (hx:l[k]=x) (hj:j<x.chgs.length) {c:Chg} (hc:x.chgs[j]=c) (h:bigC c=true):gr39I l=1:=by
 unfold gr39I gr39
 rw [Xj1 (p:=fun b:Bat=>b.chgs.any bigC) hk hx (Xj1 hj hc h)]
 rfl
theorem Xyb {c:Chg} (h:250<c.path.length):bigC c=true:=by unfold bigC;rw [Qt h];simp
theorem Xya {c:Chg} (h:250<c.target.length):bigC c=true:=by unfold bigC;rw [Qt h];simp
theorem Xx9 {c:Chg} (h:20<c.attrs.length):bigC c=true:=by unfold bigC;rw [Qt h];simp
theorem Xx8 {c:Chg} (h:600<c.content.length):bigC c=true:=by unfold bigC;rw [Qt h];simp
theorem Xx0 {c:Chg} (h:c.attrs.any bigAt=true):bigC c=true:=by unfold bigC;rw [h];simp
theorem Xx7 {c:Chg} (h1:¬250<c.path.length) (h2:¬250<c.target.length) (h3:¬20<c.attrs.length) (h4:¬600<c.content.length) (h5:c.attrs.any bigAt=false):bigC c=false:=by
 unfold bigC;rw [Qf h1,Qf h2,Qf h3,Qf h4,h5];rfl
theorem gr_t {l:List Bat} (h:10<totC l):gr39I l=1:=by
 unfold gr39I gr39
 rw [Qt h]
 simp
theorem gr_l {l:List Bat} (h:4<l.length):gr39I l=1:=by
 unfold gr39I gr39
 rw [Qt h]
 simp
theorem gr_n {l:List Bat} (h:(l.any fun b=>b.chgs.any bigC)=false) (ht:totC l≤10) (hl:l.length≤4):gr39I l=0:=by
 unfold gr39I gr39
 rw [h,Qf (by omega:¬10<totC l),Qf (by omega:¬4<l.length)]
 rfl
set_option maxRecDepth 100000 in
set_option maxHeartbeats 4000000 in
theorem Xg5 (I:IH) (v:Value) (l:List Bat) (hv:RdS tBat I v l) (w:World) (hw:Ok I w):
 Calls Tryz.prog 12 #[v] w fun e w'=>e= .returned (.int .i64 (gr39I l))∧Below w.heap.size w w':=by
 have hlen:=hv.len_le
 obtain ⟨ao,cap,rfl,_,_,_⟩:=id hv
 have Hv:=Qh hv
 clear hv
 go_enter Tryz.func12,Tryz.ntmps12
 go_wp2_with fail
 go_loopw [3,4,5,6,7] (fun s3 s4 _ _ _ wr=> ∃k:Nat,k≤l.length∧s4= .int .i64 k∧s3= .int .i64 (30*(totC (l.take k):Int))∧totC (l.take k)≤10∧((l.take k).any fun b=>b.chgs.any bigC)=false∧Below w.heap.size w wr) (fun _ i _ _ _ _=>l.length-(intOf i).toNat)
 case atStart=>exact ⟨0,Nat.zero_le _,rfl,rfl,Nat.zero_le _,rfl,Qb _ _⟩
 case round=>
  obtain ⟨k,hk,rfl,rfl,htk,hr,hb⟩:=hrel
  have Hr:=Qh hr
  clear hr
  by_cases hlt:k<l.length
  ·obtain ⟨x,vc,b,off,cap',hlx,hvv,c0,c1,h1⟩:=Xuc Hv.out hw k hlt
   cases hvv
   have hcl:=h1.len_le
   have Hlx:=Qh hlx
   have H1:=Qh h1
   have Htot:=Qh (Xp5 hlt hlx)
   have Hts:=Qh (Xdq hlt hlx)
   have Hnx:=Qh (Xca (p:=fun b:Bat=>b.chgs.any bigC) hlt hlx Hr.out)
   obtain ⟨oc,cc,rfl,_,_,_⟩:=id h1
   have C1:=Qh c1
   clear c1
   have c1:=Xaa hb C1.out
   obtain ⟨T,hT⟩:∃T,T=totC (l.take k):=⟨_,rfl⟩
   rw [←hT] at Htot Hts htk ⊢
   clear hlx h1 c0 Hr
   go_wp2_with fail
   go_loopw [3,5,6,7] (fun s3 s5 _ _ wr=> ∃j:Nat,j≤x.chgs.length∧s5= .int .i64 j∧s3= .int .i64 (30*((T+j:Nat):Int))∧T+j≤10∧((x.chgs.take j).any bigC)=false∧Below w.heap.size w wr) (fun _ i _ _ _=>x.chgs.length-(intOf i).toNat)
   case atStart=>exact ⟨0,Nat.zero_le _,rfl,rfl,htk,rfl,hb⟩
   case round=>
    clear hb c1 htk
    obtain ⟨j,hj,rfl,rfl,htj,hr,hb⟩:=hrel
    have Hr:=Qh hr
    clear hr
    have c1:=Xaa hb C1.out
    by_cases hjt:j<x.chgs.length
    ·obtain ⟨c,va,b2,off2,cap2,hlc,hvv2,hg,h2⟩:=Xsa H1.out hw j hjt
     cases hvv2
     obtain ⟨oa,ca,rfl,_,_,_⟩:=id h2
     obtain ⟨g0,g1,g2,g3,g4⟩:=hg.thru hb
     have hb1:=hb.alloc hb.size (.cells #[.int .i64 c.kind,S c.path,.slice oa c.attrs.length ca,S c.target,S c.content] 53)
     have Hyes:=Qh (gr_c hlt Hlx.out hjt hlc)
     have m1:IntKind.i64.wrap (30*((T+j:Nat):Int)+30)=30*((T+j:Nat):Int)+30:=IntWalk.i64_in _ (by omega)
     by_cases q1:250<c.path.length
     ·have d1:decide ((250:Int)<(c.path.length:Int))=true:=Qt (by omega)
      have Hn:=Qh (show gr39I l=1 from (Hyes.out (Xyb q1)))
      clear hlc Hyes
      go_wp2
      go_ret
      exact ⟨Xal Hn.out.symm,hb1⟩
     have d1:decide ((250:Int)<(c.path.length:Int))=false:=Qf (by omega)
     by_cases q2:250<c.target.length
     ·have d2:decide ((250:Int)<(c.target.length:Int))=true:=Qt (by omega)
      have Hn:=Qh (show gr39I l=1 from (Hyes.out (Xya q2)))
      clear hlc Hyes
      go_wp2
      go_ret
      exact ⟨Xal Hn.out.symm,hb1⟩
     have d2:decide ((250:Int)<(c.target.length:Int))=false:=Qf (by omega)
     by_cases q3:20<c.attrs.length
     ·have d3:decide ((20:Int)<(c.attrs.length:Int))=true:=Qt (by omega)
      have Hn:=Qh (show gr39I l=1 from (Hyes.out (Xx9 q3)))
      clear hlc Hyes
      go_wp2
      go_ret
      exact ⟨Xal Hn.out.symm,hb1⟩
     have d3:decide ((20:Int)<(c.attrs.length:Int))=false:=Qf (by omega)
     by_cases q4:600<c.content.length
     ·have d4:decide ((600:Int)<(c.content.length:Int))=true:=Qt (by omega)
      have Hn:=Qh (show gr39I l=1 from (Hyes.out (Xx8 q4)))
      clear hlc Hyes
      go_wp2
      go_ret
      exact ⟨Xal Hn.out.symm,hb1⟩
     have d4:decide ((600:Int)<(c.content.length:Int))=false:=Qf (by omega)
     have hto:=Htot.out
     by_cases q5:T+j=10
     ·have d5:decide ((300:Int)<30*((T+j:Nat):Int)+30)=true:=Qt (by omega)
      have Hn:=Qh (show gr39I l=1 from (gr_t (by omega)))
      clear hlc Hyes
      go_wp2
      go_ret
      exact ⟨Xal Hn.out.symm,hb1⟩
     have d5:decide ((300:Int)<30*((T+j:Nat):Int)+30)=false:=Qf (by omega)
     have Hcc:=Qh (Xx7 q1 q2 q3 q4)
     have Hs5:=Qh (fun h=>Xca (p:=bigC) hjt hlc Hr.out (Hcc.out h))
     have H2:=Qh h2
     have HB:=Qh (show ChgB (wr.alloc (.cells #[.int .i64 c.kind,S c.path,.slice oa c.attrs.length ca,S c.target,S c.content] 53)) wr.heap.size c (.slice oa c.attrs.length ca) from chgB_row (heap_alloc_new _ _))
     have hal:=h2.len_le
     obtain ⟨n6,hn6⟩:∃n6,n6=wr.heap.size:=⟨_,rfl⟩
     rw [←hn6] at HB
     clear h2 hlc q1 q2 q3 q4
     go_wp2_with fail
     rw [←hn6]
     clear hn6 hg g0 g1 g2 g3 g4
     go_loopw [7] (fun s7 wr=> ∃m:Nat,m≤c.attrs.length∧s7= .int .i64 m∧(c.attrs.take m).any bigAt=false∧ChgB wr n6 c (.slice oa c.attrs.length ca)∧Below w.heap.size w wr) (fun i _=>c.attrs.length-(intOf i).toNat)
     case atStart=>exact ⟨0,Nat.zero_le _,rfl,rfl,HB.out,hb1⟩
     case round=>
      clear hb1 HB hb c1
      obtain ⟨m,hm,rfl,hr,hB,hb⟩:=hrel
      have Hr3:=Qh hr
      have HB:=Qh hB
      clear hr hB
      obtain ⟨g0,g1,g2,g3,g4⟩:=HB.out
      by_cases hmt:m<c.attrs.length
      ·obtain ⟨y,b3,off3,cap3,hly,hvv3,hc0,hc1⟩:=atAt H2.out hw m hmt
       cases hvv3
       have y0:=Xaa hb hc0
       have y1:=Xaa hb hc1
       have Hno:=Qh (Xca (p:=bigAt) hmt hly Hr3.out)
       have Hy3:=Qh (Xj1 (p:=bigAt) hmt hly)
       clear hc0 hc1 hly
       by_cases r1:80<y.k.length
       ·have e1:decide ((80:Int)<(y.k.length:Int))=true:=Qt (by omega)
        have Hn:=Qh (show gr39I l=1 from Hyes.out (Xx0 (Hy3.out (by unfold bigAt;rw [Qt r1];rfl))))
        clear Hyes r1
        go_wp2
        go_ret
        exact ⟨Xal Hn.out.symm,hb⟩
       have e1:decide ((80:Int)<(y.k.length:Int))=false:=Qf (by omega)
       by_cases r2:80<y.v.length
       ·have e2:decide ((80:Int)<(y.v.length:Int))=true:=Qt (by omega)
        have Hn:=Qh (show gr39I l=1 from Hyes.out (Xx0 (Hy3.out (by unfold bigAt;rw [Qt r2];simp))))
        clear Hyes r1 r2
        go_wp2
        go_ret
        exact ⟨Xal Hn.out.symm,hb⟩
       have e2:decide ((80:Int)<(y.v.length:Int))=false:=Qf (by omega)
       have Hn:=Qh (Hno.out (by unfold bigAt;rw [Qf r1,Qf r2];rfl))
       clear r1 r2
       go_wp2
       go_roundw
       case rel=>exact ⟨m+1,by omega,by go_num,Hn.out,HB.out,hb⟩
       case measure=>simp [intOf];omega
      ·have Hn:=Qh (Hs5.out (by have:=Hr3.out;rwa [List.take_of_length_le (by omega)] at this))
       go_wp2
       go_roundw
       case rel=>exact ⟨j+1,by omega,by go_num,by simp;omega,by omega,Hn.out,hb⟩
       case measure=>simp [intOf];omega
    ·have hje:j=x.chgs.length:=by omega
     subst hje
     have h:=Hr.out
     rw [List.take_length] at h
     have Hn:=Qh (Hnx.out h)
     clear h
     go_wp2
     go_roundw
     case rel=>exact ⟨k+1,by omega,by go_num,by rw [Hts.out],by rw [Hts.out];exact htj,Hn.out,hb⟩
     case measure=>simp [intOf];omega
  ·have hke:k=l.length:=by omega
   subst hke
   rw [List.take_length] at htk Hr
   by_cases q:4<l.length
   ·have d1:decide ((4:Int)<(l.length:Int))=true:=Qt (by omega)
    have Hn:=Qh (gr_l q)
    go_wp2
    go_ret
    exact ⟨Xal Hn.out.symm,hb⟩
   ·have d1:decide ((4:Int)<(l.length:Int))=false:=Qf (by omega)
    have Hn:=Qh (gr_n Hr.out htk (by omega))
    go_wp2
    go_ret
    exact ⟨Xal Hn.out.symm,hb⟩
end Go.Proofs.YtjdednajelommaaGreatDoor
