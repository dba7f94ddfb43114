/-
  Walks and laws that the claim's theorem uses: texts QuY, joined; comments out. Conditions: as each theorem says.
-/
import Derived.Test.YtmdfjnhfhidmhaaGreatDoorK41
set_option linter.all false
namespace Go.Proofs.YtmdfjnhfhidmhaaGreatDoor
open Go.RowKit
theorem Xi6 (a:Acc) (L M:List (Rqs × Int)):growA a (L++M)=growA (growA a L) M:=by unfold growA;rw [List.foldl_append]
theorem Xgz (a:Acc):∀L:List (Rqs × Int),a.ub≤(growA a L).ub∧a.uf≤(growA a L).uf∧(growA a L).b=a.b∧(growA a L).f=a.f:=by
 intro L
 unfold growA
 induction L generalizing a with
 |nil=>exact ⟨Int.le_refl _,Int.le_refl _,rfl,rfl⟩
 |cons p L ih=>
  rw [List.foldl_cons]
  obtain ⟨h1,h2,h3,h4⟩:=ih (if p.1.owner=a.owner∧p.2=0 then payA a p.1.c else a)
  have hc:=Xkr p.1.c
  split at h1<;>rename_i hif
  ·rw [if_pos hif] at h2 h3 h4 ⊢
   have e1:(payA a p.1.c).ub=a.ub+costB p.1.c:=rfl
   have e2:(payA a p.1.c).uf=a.uf+costF p.1.c:=rfl
   exact ⟨by omega,by omega,h3,h4⟩
  ·rw [if_neg hif] at h2 h3 h4 ⊢
   exact ⟨h1,h2,h3,h4⟩
def growK (rs:List Rqs) (es:List Int) (x:Acc) (k:Nat):Acc:=growA x ((rs.zip es).take k)
theorem Xm1 {rs:List Rqs} {es:List Int} (hl:es.length=rs.length) (x:Acc) {k:Nat} (h1:k<rs.length) (h2:k<es.length) {r:Rqs} {e:Int} (hr:rs[k]=r) (he:es[k]=e):
 growK rs es x (k+1)=if r.owner=(growK rs es x k).owner∧e=0 then payA (growK rs es x k) r.c else growK rs es x k:=by
 have hz:k<(rs.zip es).length:=by rw [List.length_zip];omega
 have hk:(rs.zip es)[k]=(r,e):=by rw [List.getElem_zip,hr,he]
 unfold growK
 rw [List.take_succ_eq_append_getElem hz,hk,Xi6]
 rfl
theorem Xoy {rs:List Rqs} {es:List Int} (hl:es.length=rs.length) (x:Acc):growK rs es x rs.length=growA x (rs.zip es):=by
 unfold growK
 rw [List.take_of_length_le (by rw [List.length_zip];omega)]
theorem Xox {l:List Acc} {rs:List Rqs} {es:List Int} (h0:AccsFit l) (h:AccsFit (l.map fun a=>growA a (rs.zip es))) {x:Acc} (hx:x∈l) (k:Nat):
 0≤(growK rs es x k).ub∧(growK rs es x k).ub≤9223372036854775807∧0≤(growK rs es x k).uf∧(growK rs es x k).uf≤9223372036854775807:=by
 have hz:=List.mem_map_of_mem (f:=fun a=>growA a (rs.zip es)) hx
 have o0:=h0.ok.ok x hx
 have o1:=h.ok.ok _ hz
 have b1:=h.b _ hz
 have f1:=h.f _ hz
 have m1:=Xgz x ((rs.zip es).take k)
 have m2:=Xgz (growA x ((rs.zip es).take k)) ((rs.zip es).drop k)
 rw [←Xi6,List.take_append_drop] at m2
 have:=o0.ub0
 have:=o0.uf0
 have:=o1.ub1
 have:=o1.uf1
 unfold growK
 omega
theorem Xmy (d:Drf) {l:List Acc} (h:AccsFit l) (rs:List Rqs):(ingP d l rs).es.length=rs.length∧(ingP d l rs).l=l.map (fun a=>growA a (rs.zip (ingP d l rs).es))∧AccsFit (ingP d l rs).l:=by
 obtain ⟨es,h1,h2,h3,_,_⟩:=Xfo (rs:=rs) (s:=⟨d,l,[]⟩) h.ok
 rw [List.nil_append] at h1
 have h1':(ingP d l rs).es=es:=h1
 have hf:=Xlj (d:=d) h rs rs.length
 unfold ingK at hf
 rw [List.take_length] at hf
 exact ⟨by rw [h1'];exact h2,by rw [h1'];exact h3,hf⟩
set_option maxRecDepth 100000 in
set_option maxHeartbeats 4000000 in
theorem Xfk (I:IH) (hI:Glob I) (v:Value) (l:List Acc) (hv:RdS tAcc I v l) (hl:∀a∈l,a.In) (hlo:∀a∈l,a.owner.length≤4294967280) (vr:Value) (rs:List Rqs) (hvr:RdS tRq I vr rs) (hk:KIn rs) (hwt:weightP rs≤4611686018427387904) (date:Int) (w:World) (hw:Ok I w):
 Calls Tryz.prog 10 #[v,vr,.int .i64 date] w fun e w'=>e= .returned (.bool true)∧Below w.heap.size w w':=by
 have Haw:=Qh (fun J (hk:∀b c,I b=some c→J b=some c) w hw=>Xiz J (hI.mono hk) w hw)
 have A0:=Qh (MAt.start hw)
 have HG:=Qh hI
 have hb:=Xfl I hI date (.slice none 0 0) [] (RdS.nil _ _) (fun c h=>by cases h) (by decide) w hw
 have Hgr:=Qh (fun J (hk:∀b c,I b=some c→J b=some c) w hw=>Xiy J v l (hv.mono hk) vr rs (hvr.mono hk) hwt w hw)
 have Hck:=Qh (fun J (hk:∀b c,I b=some c→J b=some c) w hw=>Xhl J (hI.mono hk) v l (hv.mono hk) hlo w hw)
 have Hv:=Qh hv
 have Hvr:=Qh hvr
 have Hl:=Qh hl
 have Hlo:=Qh hlo
 have Hk:=Qh hk
 obtain ⟨dB,okB,hdB⟩:∃dB okB,dftP date []=(dB,okB):=⟨_,_,rfl⟩
 rw [hdB] at hb
 dsimp only at hb
 have HB:=Qh hb
 have HdB:=Qh hdB
 obtain ⟨ao,cap,rfl,_,_,_⟩:=id hv
 obtain ⟨ro,rcap,rfl,_,_,_⟩:=id hvr
 clear hI hv hl hlo hvr hk hb hdB hwt
 go_enter Tryz.func10,Tryz.ntmps10
 go_wp2_with fail
 refine (HB.out).mono ?_
 rintro e1 w1 ⟨ve1,vk1,vt1,vh1,J1,rfl,hb1,hx1,hok1,hrd1⟩
 obtain ⟨ae1,ce1,rfl,_,_,_⟩:=id hrd1.ents
 obtain ⟨ak1,ck1,rfl,_,_,_⟩:=id hrd1.cks
 obtain ⟨at1,ct1,rfl,_,_,_⟩:=id hrd1.tree
 obtain ⟨ah1,ch1,rfl,_,_,_⟩:=id hrd1.holds
 go_upto_region 2 with (
  refine Xab rfl rfl 43 _ _ rfl w1.heap.size 0 (drCs dB (.slice ae1 dB.ents.length ce1) (.slice ak1 dB.sto.cks.length ck1) (.slice at1 dB.tree.length ct1) (.slice ah1 dB.holds.length ch1)) (drV dB (.slice ae1 dB.ents.length ce1) (.slice ak1 dB.sto.cks.length ck1) (.slice at1 dB.tree.length ct1) (.slice ah1 dB.holds.length ch1)) (by simp [Act.eval]) (by simp [Act.eval]) (by rfl) zeroD 43 (heap_alloc_new _ _) (by simp) (by kernel_rfl) (by simp [Value.oneCell']) (drCs dB (.slice ae1 dB.ents.length ce1) (.slice ak1 dB.sto.cks.length ck1) (.slice at1 dB.tree.length ct1) (.slice ah1 dB.holds.length ch1)).toArray (by rfl) ?_
  intro w2 hg2 hr2)
 have hb2:Below w1.heap.size w1 w2:=((Qb _ _).alloc (Qn _) _).grown hg2 (by simp) (fun k e=>by injection e with e;omega)
 have hf1:J1 w1.heap.size=none:=hok1.fresh (Qn _)
 have A2:=Qh ((A0.out.ext hb1 hx1 hok1).quiet hb2)
 have D2:=Qh (show WrB J1 w2 w1.heap.size dB _ _ _ _ from ⟨A2.out.ok,hf1,hrd1,hr2⟩)
 clear hb1 hx1 hok1 hrd1 hg2 hr2 hb2 hf1 A0 HB
 generalize w1.heap.size=B at D2 ⊢
 by_cases q:begErr [] date=0
 case neg=>
  obtain ⟨e1,rfl⟩:=Prod.mk.inj (HdB.out.symm.trans ((Xhz date).trans (if_pos q)))
  clear e1 q HdB
  go_wp2_with fail
  refine (Haw.out _ A2.out.keep _ A2.out.ok).mono ?_
  rintro e9 w9 ⟨rfl,hb9⟩
  have A9:=Qh (A2.out.quiet hb9)
  go_wp2
  go_ret
  exact ⟨rfl,A9.out.bel⟩
 obtain ⟨e1,rfl⟩:=Prod.mk.inj (HdB.out.symm.trans ((Xhz date).trans (if_neg (fun h=>h q))))
 have HdO:=Qh (show DrOk 0 dB by rw [e1];exact Xho Xec (by decide) (by decide) q)
 clear q HdB e1
 go_wp2_with fail
 refine (Hgr.out _ A2.out.keep _ A2.out.ok).mono ?_
 rintro e3 w3 ⟨rfl,hb3⟩
 have A3:=Qh (A2.out.quiet hb3)
 have D3:=Qh (D2.out.below hb3)
 clear hb3 A2 D2 Hgr
 by_cases g:12<l.length∨1500<weightP rs
 ·rw [Qt g]
  clear g
  go_wp2_with fail
  refine (Haw.out _ A3.out.keep _ A3.out.ok).mono ?_
  rintro e9 w9 ⟨rfl,hb9⟩
  have A9:=Qh (A3.out.quiet hb9)
  go_wp2
  go_ret
  exact ⟨rfl,A9.out.bel⟩
 rw [Qf g]
 go_wp2_with fail
 refine (Hck.out _ A3.out.keep _ A3.out.ok).mono ?_
 rintro e4 w4 ⟨rfl,hb4⟩
 have A4:=Qh (A3.out.quiet hb4)
 have D4:=Qh (D3.out.below hb4)
 clear hb4 A3 D3 Hck
 by_cases h0:accsErr l=0
 case neg=>
  have i1:(accsErr l != 0)=true:=by simpa using h0
  clear h0 g
  go_wp2_with fail
  refine (Haw.out _ A4.out.keep _ A4.out.ok).mono ?_
  rintro e9 w9 ⟨rfl,hb9⟩
  have A9:=Qh (A4.out.quiet hb9)
  go_wp2
  go_ret
  exact ⟨rfl,A9.out.bel⟩
 have i1:(accsErr l != 0)=false:=by simp [h0]
 have Hf:=Qh (show AccsFit l from ⟨AccsOk.of h0,fun a ha=>(Hl.out a ha).b1,fun a ha=>(Hl.out a ha).f1,by omega⟩)
 have Hwf:=Qh (Xr8 Hk.out (show weightP rs≤1500 by omega))
 have hi1:=Xfa J1 (HG.out.mono A4.out.keep) dB HdO.out _ _ _ _ D4.out.rd _ l (Hv.out.mono A4.out.keep) Hf.out _ rs (Hvr.out.mono A4.out.keep) Hwf.out.1 Hwf.out.2 w4 A4.out.ok
 obtain ⟨hs1,hs2,hs3⟩:=Xmy dB Hf.out rs
 obtain ⟨s,hs⟩:∃s,ingP dB l rs=s:=⟨_,rfl⟩
 rw [hs] at hi1 hs1 hs2 hs3
 have Hi1:=Qh hi1
 have Hs1:=Qh hs1
 have Hs2:=Qh hs2
 have Hs3:=Qh hs3
 have hll:s.l.length=l.length:=by rw [hs2,List.length_map]
 have hlo2:∀a∈s.l,a.owner.length≤4294967280:=fun a ha=>by
  rw [hs2] at ha
  obtain ⟨x,hx,rfl⟩:=List.mem_map.1 ha
  rw [Xko]
  exact Hlo.out x hx
 have Hlo2:=Qh hlo2
 have Hll:=Qh hll
 have hrs:=Hwf.out.2
 have hln:=Hf.out.len
 obtain ⟨b0,b1,b2,b3,b4,b5,b6,b7,b8⟩:=drB_row (d:=dB) D4.out.row
 clear h0 g hs hi1 HdO hs1 hs2 hs3 hll hlo2 Hlo
 go_wp2_with fail
 refine (Hi1.out).mono ?_
 rintro e5 w5 ⟨ve5,vk5,vt5,vh5,va5,vs5,J5,rfl,hb5,hx5,hok5,hrd5,hra5,hrs5⟩
 obtain ⟨ae5,ce5,rfl,_,_,_⟩:=id hrd5.ents
 obtain ⟨ak5,ck5,rfl,_,_,_⟩:=id hrd5.cks
 obtain ⟨at5,ct5,rfl,_,_,_⟩:=id hrd5.tree
 obtain ⟨ah5,ch5,rfl,_,_,_⟩:=id hrd5.holds
 obtain ⟨aa5,ca5,rfl,_,_,_⟩:=id hra5
 obtain ⟨as5,cs5,rfl,_,_,_⟩:=id hrs5
 go_upto_region 5 with (
  refine Xab rfl rfl 43 _ _ rfl w5.heap.size 0 (drCs s.d (.slice ae5 s.d.ents.length ce5) (.slice ak5 s.d.sto.cks.length ck5) (.slice at5 s.d.tree.length ct5) (.slice ah5 s.d.holds.length ch5)) (drV s.d (.slice ae5 s.d.ents.length ce5) (.slice ak5 s.d.sto.cks.length ck5) (.slice at5 s.d.tree.length ct5) (.slice ah5 s.d.holds.length ch5)) (by simp [Act.eval]) (by simp [Act.eval]) (by rfl) zeroD 43 (heap_alloc_new _ _) (by simp) (by kernel_rfl) (by simp [Value.oneCell']) (drCs s.d (.slice ae5 s.d.ents.length ce5) (.slice ak5 s.d.sto.cks.length ck5) (.slice at5 s.d.tree.length ct5) (.slice ah5 s.d.holds.length ch5)).toArray (by rfl) ?_
  intro w6 hg6 hr6)
 have hb6:Below w5.heap.size w5 w6:=((Qb _ _).alloc (Qn _) _).grown hg6 (by simp) (fun k e=>by injection e with e;omega)
 have hf5:J5 w5.heap.size=none:=hok5.fresh (Qn _)
 have A6:=Qh ((A4.out.ext hb5 hx5 hok5).quiet hb6)
 have HS6:=Qh hrs5
 have HA6:=Qh hra5
 clear hb5 hx5 hok5 hrd5 hra5 hrs5 hr6 hb6 hf5 hg6 A4 D4 Hi1 b0 b1 b2 b3 b4 b5 b6 b7 b8
 go_wp2_with fail
 refine (Xhl J5 (HG.out.mono A6.out.keep) _ s.l HA6.out Hlo2.out w6 A6.out.ok).mono ?_
 rintro e7 w7 ⟨rfl,hb7⟩
 have A7:=Qh (A6.out.quiet hb7)
 have i2:(accsErr s.l != 0)=false:=by rw [Hs3.out.ok.err];rfl
 have i3:((s.l.length:Int) != (l.length:Int))=false:=by rw [Hll.out];simp
 have i4:((s.es.length:Int) != (rs.length:Int))=false:=by rw [Hs1.out];simp
 clear hb7 A6 Hlo2
 go_wp2_with fail
 clear i1 i2 i3 i4
 go_loopw [12,13,14,15,61] (fun _ _ _ _ s61 wr=> ∃k:Nat,k≤l.length∧s61= .int .i64 k∧Below w7.heap.size w7 wr) (fun _ _ _ _ i _=>l.length-(intOf i).toNat)
 case atStart=>exact ⟨0,Nat.zero_le _,rfl,Qb _ _⟩
 case round=>
  obtain ⟨k,hk,rfl,hb⟩:=hrel
  have A:=Qh (A7.out.quiet hb)
  by_cases hlt:k<l.length
  ·obtain ⟨x,b1,off,cap1,hlx,hvv,⟨c0,c1,c2,c3,c4⟩⟩:=Xni (Hv.out.mono A.out.keep) A.out.ok k hlt
   cases hvv
   have Hlx:=Qh hlx
   have hxm:x∈l:=by rw [←hlx];exact List.getElem_mem hlt
   have Hgf:=Qh (fun j=>Xox (rs:=rs) (es:=s.es) Hf.out (Hs2.out▸Hs3.out) hxm j)
   have hbl:=hb.alloc hb.size (.cells #[S x.owner,.int .i64 x.b,.int .i64 x.f,.int .i64 x.ub,.int .i64 x.uf] 54)
   have hrow:=heap_alloc_new wr (.cells #[S x.owner,.int .i64 x.b,.int .i64 x.f,.int .i64 x.ub,.int .i64 x.uf] 54)
   have hbs:=hb.size
   have Hbl:=Qh hbl
   have Hrow:=Qh hrow
   clear hlx hxm hbl hrow A hb
   go_wp2_with fail
   generalize wr.heap.size=n at hbs Hrow ⊢
   clear c0 c1 c2 c3 c4
   go_loopw [14,15,68] (fun _ _ s68 wr=> ∃j:Nat,j≤rs.length∧s68= .int .i64 j∧Below w7.heap.size w7 wr∧wr.heap[n]? =some (.cells (accCs (growK rs s.es x j)).toArray 54 (0,0))) (fun _ _ i _=>rs.length-(intOf i).toNat)
   case atStart=>exact ⟨0,Nat.zero_le _,rfl,Hbl.out,Hrow.out⟩
   case round=>
    obtain ⟨j,hj,rfl,hb,hrow⟩:=hrel
    have A:=Qh (A7.out.quiet hb)
    have hnl:=(Array.getElem?_eq_some_iff.1 hrow).1
    have hgf1:=Hgf.out j
    by_cases hjt:j<rs.length
    ·obtain ⟨r,va,b2,off2,cap2,hlr,hvv,⟨c0,c1,c2,c3,c4,c5⟩,hva⟩:=rqAt (Hvr.out.mono A.out.keep) A.out.ok j hjt
     cases hvv
     have hje:j<s.es.length:=by rw [Hs1.out];exact hjt
     obtain ⟨ej,b3,off3,cap3,hle,hvv,d⟩:=Xra HS6.out A.out.ok j hje
     cases hvv
     obtain ⟨oa,ca,rfl,_,_,_⟩:=id hva
     have hgk:=Xm1 Hs1.out x hjt hje hlr hle
     have hgf2:=Hgf.out (j+1)
     obtain ⟨y,hy⟩:∃y,growK rs s.es x j=y:=⟨_,rfl⟩
     rw [hy] at hrow hgk hgf1
     have hrow2:=(((Qb wr.heap.size wr).alloc (Qn _) (.cells #[S r.owner,.int .i64 r.c.kind,S r.c.path,.slice oa r.c.attrs.length ca,S r.c.target,S r.c.content] 27)).block n hnl).trans hrow
     have hbox:=heap_alloc_new wr (.cells #[S r.owner,.int .i64 r.c.kind,S r.c.path,.slice oa r.c.attrs.length ca,S r.c.target,S r.c.content] 27)
     have x0:(wr.alloc (.cells #[S r.owner,.int .i64 r.c.kind,S r.c.path,.slice oa r.c.attrs.length ca,S r.c.target,S r.c.content] 27)).cell? ⟨n,0,none⟩=some _:=(cell_of_row _ _ 0 _ _ _ hrow2).trans rfl
     have x3:(wr.alloc (.cells #[S r.owner,.int .i64 r.c.kind,S r.c.path,.slice oa r.c.attrs.length ca,S r.c.target,S r.c.content] 27)).cell? ⟨n,3,none⟩=some _:=(cell_of_row _ _ 3 _ _ _ hrow2).trans rfl
     have x4:(wr.alloc (.cells #[S r.owner,.int .i64 r.c.kind,S r.c.path,.slice oa r.c.attrs.length ca,S r.c.target,S r.c.content] 27)).cell? ⟨n,4,none⟩=some _:=(cell_of_row _ _ 4 _ _ _ hrow2).trans rfl
     have y0:(wr.alloc (.cells #[S r.owner,.int .i64 r.c.kind,S r.c.path,.slice oa r.c.attrs.length ca,S r.c.target,S r.c.content] 27)).cell? ⟨wr.heap.size,0,none⟩=some _:=(cell_of_row _ _ 0 _ _ _ hbox).trans rfl
     have y1:(wr.alloc (.cells #[S r.owner,.int .i64 r.c.kind,S r.c.path,.slice oa r.c.attrs.length ca,S r.c.target,S r.c.content] 27)).cell? ⟨wr.heap.size,1,none⟩=some _:=(cell_of_row _ _ 1 _ _ _ hbox).trans rfl
     have y5:(wr.alloc (.cells #[S r.owner,.int .i64 r.c.kind,S r.c.path,.slice oa r.c.attrs.length ca,S r.c.target,S r.c.content] 27)).cell? ⟨wr.heap.size,5,none⟩=some _:=(cell_of_row _ _ 5 _ _ _ hbox).trans rfl
     have d':=Xad (.cells #[S r.owner,.int .i64 r.c.kind,S r.c.path,.slice oa r.c.attrs.length ca,S r.c.target,S r.c.content] 27) d
     have hb':=hb.alloc hb.size (.cells #[S r.owner,.int .i64 r.c.kind,S r.c.path,.slice oa r.c.attrs.length ca,S r.c.target,S r.c.content] 27)
     have Hb:=Qh hb'
     have Hrow2:=Qh hrow2
     have Hgk:=Qh hgk
     clear hlr hle hva hbox hb hb' hrow hrow2 hy A hgk
     cases ho:r.owner==y.owner
     case false=>
      have hno:¬(r.owner=y.owner∧ej=0):=fun h=>by rw [h.1] at ho;simp at ho
      have j1:(r.owner != y.owner)=true:=by rw [bne,ho];rfl
      have Hn:=Qh (Hgk.out.trans (if_neg hno))
      clear Hgk hno
      go_wp2_with fail
      go_roundw
      case rel=>exact ⟨j+1,by omega,by go_num,Hb.out,by rw [Hn.out];exact Hrow2.out⟩
      case measure=>simp [intOf];omega
     case true=>
      have ho2:r.owner=y.owner:=by simpa using ho
      have j1:(r.owner != y.owner)=false:=by rw [bne,ho];rfl
      by_cases he:ej=0
      case neg=>
       have j2:(ej != 0)=true:=by simpa using he
       have Hn:=Qh (Hgk.out.trans (if_neg (fun h=>he h.2)))
       clear Hgk he ho2
       go_wp2_with fail
       go_roundw
       case rel=>exact ⟨j+1,by omega,by go_num,Hb.out,by rw [Hn.out];exact Hrow2.out⟩
       case measure=>simp [intOf];omega
      subst he
      have hn1:=Hgk.out.trans (if_pos ⟨ho2,rfl⟩)
      rw [hn1] at hgf2
      have e1:(payA y r.c).ub=y.ub+costB r.c:=rfl
      have e2:(payA y r.c).uf=y.uf+costF r.c:=rfl
      rw [e1,e2] at hgf2
      have Hn:=Qh hn1
      clear Hgk hn1 ho2 e1 e2
      have hrow3:=Hrow2.out
      by_cases k1:r.c.kind=1
      ·have q1:(r.c.kind==1)=true:=by simpa using k1
       have cb:costB r.c=(r.c.content.length:Nat):=by unfold costB;rw [if_pos k1]
       have cf:costF r.c=1:=by unfold costF;rw [if_pos (.inl k1)]
       have Hp:=Qh (show payA y r.c=⟨y.owner,y.b,y.f,y.ub+(r.c.content.length:Nat),y.uf+1⟩ by unfold payA;rw [cb,cf])
       rw [cb,cf] at hgf2
       have m1:IntKind.i64.wrap (y.ub+(r.c.content.length:Nat))=y.ub+(r.c.content.length:Nat):=IntWalk.i64_in _ (by omega)
       have m2:IntKind.i64.wrap (y.uf+1)=y.uf+1:=IntWalk.i64_in _ (by omega)
       clear cb cf k1
       go_upto_region 17 with (
        refine Xab rfl rfl 3 _ _ rfl n 3 [.int .i64 (y.ub+(r.c.content.length:Nat))] (.int .i64 (y.ub+(r.c.content.length:Nat))) (by simp [Act.eval]) (by simp [Act.eval]) (by rfl) _ 54 hrow3 (by simp) (by kernel_rfl) (by simp [Value.oneCell']) #[S y.owner,.int .i64 y.b,.int .i64 y.f,.int .i64 (y.ub+(r.c.content.length:Nat)),.int .i64 y.uf] (by rfl) ?_
        intro w8 hg8 hr8)
       have z4:w8.cell? ⟨n,4,none⟩=some _:=(cell_of_row _ _ 4 _ _ _ hr8).trans rfl
       have hb8:=Hb.out.grown hg8 Hb.out.size (fun k e=>by injection e with e;omega)
       have Hb8:=Qh hb8
       clear hb8 hg8 Hb Hrow2 hrow3 x0 x3 x4 y0 y1 y5 d d' c0 c1 c2 c3 c4 c5
       go_wp2_with (
        refine Xab rfl rfl 3 _ _ rfl n 4 [.int .i64 (y.uf+1)] (.int .i64 (y.uf+1)) (by simp [Act.eval]) (by simp [Act.eval]) (by rfl) _ 54 hr8 (by simp) (by kernel_rfl) (by simp [Value.oneCell']) #[S y.owner,.int .i64 y.b,.int .i64 y.f,.int .i64 (y.ub+(r.c.content.length:Nat)),.int .i64 (y.uf+1)] (by rfl) ?_
        intro w9 hg9 hr9)
       have hb9:=Hb8.out.grown hg9 Hb8.out.size (fun k e=>by injection e with e;omega)
       go_roundw
       case rel=>exact ⟨j+1,by omega,by go_num,hb9,by rw [Hn.out,Hp.out];exact hr9⟩
       case measure=>simp [intOf];omega
      have q1:(r.c.kind==1)=false:=by simpa using k1
      have cb:costB r.c=0:=by unfold costB;rw [if_neg k1]
      by_cases k2:r.c.kind=2∨r.c.kind=3
      ·have cf:costF r.c=1:=by unfold costF;rw [if_pos (.inr k2)]
       have Hp:=Qh (show payA y r.c=⟨y.owner,y.b,y.f,y.ub,y.uf+1⟩ by unfold payA;rw [cb,cf,Int.add_zero])
       rw [cb,cf] at hgf2
       have m2:IntKind.i64.wrap (y.uf+1)=y.uf+1:=IntWalk.i64_in _ (by omega)
       clear cb cf k1
       rcases Classical.em (r.c.kind=2) with k3|k3
       ·have q2:(r.c.kind==2)=true:=by simpa using k3
        clear k2 k3
        go_wp2_with (
         refine Xab rfl rfl 3 _ _ rfl n 4 [.int .i64 (y.uf+1)] (.int .i64 (y.uf+1)) (by simp [Act.eval]) (by simp [Act.eval]) (by rfl) _ 54 hrow3 (by simp) (by kernel_rfl) (by simp [Value.oneCell']) #[S y.owner,.int .i64 y.b,.int .i64 y.f,.int .i64 y.ub,.int .i64 (y.uf+1)] (by rfl) ?_
         intro w9 hg9 hr9)
        have hb9:=Hb.out.grown hg9 Hb.out.size (fun k e=>by injection e with e;omega)
        go_roundw
        case rel=>exact ⟨j+1,by omega,by go_num,hb9,by rw [Hn.out,Hp.out];exact hr9⟩
        case measure=>simp [intOf];omega
       ·have q2:(r.c.kind==2)=false:=by simpa using k3
        have q3:(r.c.kind==3)=true:=by simpa using k2.resolve_left k3
        clear k2 k3
        go_wp2_with (
         refine Xab rfl rfl 3 _ _ rfl n 4 [.int .i64 (y.uf+1)] (.int .i64 (y.uf+1)) (by simp [Act.eval]) (by simp [Act.eval]) (by rfl) _ 54 hrow3 (by simp) (by kernel_rfl) (by simp [Value.oneCell']) #[S y.owner,.int .i64 y.b,.int .i64 y.f,.int .i64 y.ub,.int .i64 (y.uf+1)] (by rfl) ?_
         intro w9 hg9 hr9)
        have hb9:=Hb.out.grown hg9 Hb.out.size (fun k e=>by injection e with e;omega)
        go_roundw
        case rel=>exact ⟨j+1,by omega,by go_num,hb9,by rw [Hn.out,Hp.out];exact hr9⟩
        case measure=>simp [intOf];omega
      ·have q2:(r.c.kind==2)=false:=by simpa using fun h=>k2 (.inl h)
       have q3:(r.c.kind==3)=false:=by simpa using fun h=>k2 (.inr h)
       have cf:costF r.c=0:=by unfold costF;rw [if_neg (fun h=>h.elim k1 k2)]
       have Hp:=Qh (show payA y r.c=y by unfold payA;rw [cb,cf,Int.add_zero,Int.add_zero])
       clear cb cf k1 k2 hrow3
       go_wp2_with fail
       go_roundw
       case rel=>exact ⟨j+1,by omega,by go_num,Hb.out,by rw [Hn.out,Hp.out];exact Hrow2.out⟩
       case measure=>simp [intOf];omega
    ·have hje:j=rs.length:=by omega
     subst hje
     rw [Xoy Hs1.out] at hrow
     have hks:k<s.l.length:=by rw [Hll.out];exact hlt
     obtain ⟨y,b2,off2,cap2,hly,hvv,hY⟩:=Xni HA6.out A.out.ok k hks
     cases hvv
     have hyx:growA x (rs.zip s.es)=y:=by
      rw [←hly,←Hlx.out]
      have:=List.getElem_of_eq Hs2.out hks
      rw [this,List.getElem_map]
     rw [hyx] at hrow
     have c0:=cell_regrown hY.c0
     have c1:=cell_regrown hY.c1
     have c2:=cell_regrown hY.c2
     have c3:=cell_regrown hY.c3
     have c4:=cell_regrown hY.c4
     have d0:=cell_regrown ((cell_of_row _ _ 0 _ _ _ hrow).trans rfl:wr.cell? ⟨n,0,none⟩=some (S y.owner))
     have d1:=cell_regrown ((cell_of_row _ _ 1 _ _ _ hrow).trans rfl:wr.cell? ⟨n,1,none⟩=some (.int .i64 y.b))
     have d2:=cell_regrown ((cell_of_row _ _ 2 _ _ _ hrow).trans rfl:wr.cell? ⟨n,2,none⟩=some (.int .i64 y.f))
     have d3:=cell_regrown ((cell_of_row _ _ 3 _ _ _ hrow).trans rfl:wr.cell? ⟨n,3,none⟩=some (.int .i64 y.ub))
     have d4:=cell_regrown ((cell_of_row _ _ 4 _ _ _ hrow).trans rfl:wr.cell? ⟨n,4,none⟩=some (.int .i64 y.uf))
     have hq:=Xj9 y
     have Hb:=Qh hb
     clear hyx hly hY hrow hgf1 A hb
     go_wp2_with fail
     refine wp_region_quiet_below (by kernel_rfl) (by kernel_rfl) ?_
     repeat (go_big_quiet_step ((fail)))
     refine wpQuiet_nil ?_
     intro w8 hwq
     have hb8:Below (wr).heap.size (wr) w8:=by
      obtain ⟨pq,rfl⟩:=hwq
      exact below_regrown _ _ _
     clear hwq
     go_wp2
     go_roundw
     case rel=>exact ⟨k+1,by omega,by go_num,Hb.out.trans (hb8.mono Hb.out.size)⟩
     case measure=>simp [intOf];omega
  ·clear hb
   go_wp2_with fail
   refine (Haw.out _ A.out.keep _ A.out.ok).mono ?_
   rintro e9 w9 ⟨rfl,hb9⟩
   have A9:=Qh (A.out.quiet hb9)
   go_wp2
   go_ret
   exact ⟨rfl,A9.out.bel⟩
end Go.Proofs.YtmdfjnhfhidmhaaGreatDoor
