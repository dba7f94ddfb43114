/-
  Walks and laws that the claim's theorem uses: texts QuO QuX Open RowU RowV, joined; comments out. Conditions: as each theorem says.
-/
import Derived.Test.YtmdfjnhfhidmhaaGreatDoorK40
import Derived.ProofKit
import Derived.Deep.Slices
import Derived.Lib.LaidTab
import Derived.LaidMore
import Derived.Lay
import Derived.Stop.Joined
import Derived.Stop.LaidErr
import Derived.Test.YtmdfjnhfhidmhaaGreatDoorCards
import Derived.Test.YtmdfjnhfhidmhaaGreatDoorTie
import Derived.HandedShaped
import Derived.SizedLaws
import Derived.Shelf.Vars
import Derived.Deep.DeepHandedRow
set_option linter.all false
namespace Go.Proofs.YtmdfjnhfhidmhaaGreatDoor
open Go.RowKit
theorem Xua {rs:List Rqs} {r:Rqs} (h:r∈rs):weightR r≤weightP rs:=by
 obtain ⟨A,B,rfl⟩:=List.append_of_mem h
 simp [weightP]
 omega
theorem Xr7:∀rs:List Rqs,rs.length*10≤weightP rs
 | []=>by simp
 |r::rs=>by
  have:=Xr7 rs
  have e:weightP (r::rs)=weightR r+weightP rs:=by simp [weightP]
  have h:10≤weightR r:=by unfold weightR;omega
  rw [e,List.length_cons]
  omega
theorem Xsg {l:List At} {x:At} (h:x∈l):10+x.k.length+x.v.length≤(l.map fun a=>10+a.k.length+a.v.length).sum:=by
 obtain ⟨A,B,rfl⟩:=List.append_of_mem h
 simp
 omega
theorem Xnl:∀l:List At,l.length*10≤(l.map fun a=>10+a.k.length+a.v.length).sum
 | []=>by simp
 |x::l=>by
  have:=Xnl l
  rw [List.map_cons,List.sum_cons,List.length_cons]
  omega
def KIn (rs:List Rqs):Prop:= ∀r∈rs,-9223372036854775808≤r.c.kind∧r.c.kind≤9223372036854775807
theorem Xr8 {rs:List Rqs} (hk:KIn rs) (h:weightP rs≤1500):(∀r∈rs,r.c.Wf∧r.c.attrs.length≤1000000)∧rs.length≤150:=by
 refine ⟨fun r hr=> ?_,by have:=Xr7 rs;omega⟩
 have hw:=Nat.le_trans (Xua hr) h
 have ha:=Xnl r.c.attrs
 unfold weightR at hw
 exact ⟨⟨(hk r hr).1,(hk r hr).2,by omega,fun x hx=>by have:=Xsg hx;exact ⟨by omega,by omega⟩,by omega,by omega⟩,by omega⟩
theorem Xhz (date:Int):dftP date []=if begErr [] date≠0 then (nilD,false) else (openP [] date,true):=rfl
def accK (rs:List Rqs) (es:List Int) (k:Nat):List Chg:=(((rs.zip es).take k).filter fun p=>p.2==0).map fun p=>p.1.c
theorem Xpz {rs:List Rqs} {es:List Int} (hl:es.length=rs.length) {k:Nat} (h1:k<rs.length) (h2:k<es.length) {r:Rqs} {e:Int} (hr:rs[k]=r) (he:es[k]=e):accK rs es (k+1)=accK rs es k++if e=0 then [r.c] else []:=by
 have hz:k<(rs.zip es).length:=by rw [List.length_zip];omega
 have hk:(rs.zip es)[k]=(r,e):=by rw [List.getElem_zip,hr,he]
 unfold accK
 rw [List.take_succ_eq_append_getElem hz,hk,List.filter_append,List.map_append]
 congr 1
 by_cases h:e=0
 ·subst h;rfl
 ·have hf:(e==0)=false:=by simpa using h
  rw [if_neg h,List.filter_cons,if_neg (by simp [hf])];rfl
theorem Xmc (rs:List Rqs) (es:List Int) (k:Nat):(accK rs es k).length≤k:=by
 unfold accK
 rw [List.length_map]
 exact Nat.le_trans (List.length_filter_le _ _) (by rw [List.length_take];omega)
theorem Xr4 {rs:List Rqs} {es:List Int} {k:Nat} {c:Chg} (h:c∈accK rs es k):∃r∈rs,r.c=c:=by
 unfold accK at h
 obtain ⟨p,hp,rfl⟩:=List.mem_map.1 h
 have:=List.mem_of_mem_take (List.mem_filter.1 hp).1
 exact ⟨p.1,(List.of_mem_zip this).1,rfl⟩
theorem Xkk {d:Drf} (hd:d.ents= []) {l:List Acc} (h:AccsOk l) (rs:List Rqs):(ingP d l rs).es.length=rs.length∧(ingP d l rs).d=foldD d (accK rs (ingP d l rs).es rs.length)∧
 (ingP d l rs).d.ents.map (fun e=>(e.kind,e.path))=(accK rs (ingP d l rs).es rs.length).map fun c=>(c.kind,c.path):=by
 obtain ⟨es,h1,h2,_,h4,h5⟩:=Xfo (rs:=rs) (s:=⟨d,l,[]⟩) h
 rw [List.nil_append] at h1
 have hz:(rs.zip es).take rs.length=rs.zip es:=List.take_of_length_le (by rw [List.length_zip];omega)
 have h1':(ingP d l rs).es=es:=h1
 refine ⟨by rw [h1'];exact h2,?_,?_⟩
 ·rw [h1'];unfold accK foldD;rw [hz];exact h4
 ·rw [h1'];unfold accK;rw [hz,List.map_map]
  refine h5.trans ?_
  rw [hd];rfl
theorem Xuk {es:List Ent} {cs:List Chg} (h:es.map (fun e=>(e.kind,e.path))=cs.map fun c=>(c.kind,c.path)):es.length=cs.length∧ ∀i (h1:i<es.length) (h2:i<cs.length),es[i].kind=cs[i].kind∧es[i].path=cs[i].path:=by
 have hl:es.length=cs.length:=by have:=congrArg List.length h;simpa using this
 refine ⟨hl,fun i h1 h2=> ?_⟩
 have h3:(es.map fun e=>(e.kind,e.path))[i]'(by simpa using h1)=(cs.map fun c=>(c.kind,c.path))[i]'(by simpa using h2):=List.getElem_of_eq h _
 rw [List.getElem_map,List.getElem_map] at h3
 exact ⟨congrArg Prod.fst h3,congrArg Prod.snd h3⟩
theorem Xrm:(Tryz.prog.info? 25).map (fun i=>(i.zero,i.size,i.bytes))=some (some (.agg #[.int .i64 0,.string ⟨#[]⟩,.slice none 0 0,.string ⟨#[]⟩,.string ⟨#[]⟩]),5,80):=by kernel_rfl
theorem Xrn:ElemOk Tryz.prog 52 25 tChg 80:=ElemOk.of Tryz.underlying52 Xrm rfl (by decide) rfl
set_option maxRecDepth 100000 in
set_option maxHeartbeats 4000000 in
theorem Xes (I:IH) (hI:Glob I) (v:Value) (l:List Acc) (hv:RdS tAcc I v l) (hl:∀a∈l,a.In) (hlo:∀a∈l,a.owner.length≤4294967280) (vr:Value) (rs:List Rqs) (hvr:RdS tRq I vr rs) (hk:KIn rs) (hwt:weightP rs≤4611686018427387904) (date:Int) (w:World) (hw:Ok I w):
 Calls Tryz.prog 11 #[v,vr,.int .i64 date] w fun e w'=>e= .returned (.bool true)∧Below w.heap.size w w':=by
 have Haw:=Qh (fun J (hk:∀b c,I b=some c→J b=some c) w hw=>Xiz J (hI.mono hk) w hw)
 have A0:=Qh (MAt.start hw)
 have HG:=Qh hI
 have hb:=Xfl I hI date (.slice none 0 0) [] (RdS.nil _ _) (fun c h=>by cases h) (by decide) w hw
 have Hgr:=Qh (fun J (hk:∀b c,I b=some c→J b=some c) w hw=>Xiy J v l (hv.mono hk) vr rs (hvr.mono hk) hwt w hw)
 have Hck:=Qh (fun J (hk:∀b c,I b=some c→J b=some c) w hw=>Xhl J (hI.mono hk) v l (hv.mono hk) hlo w hw)
 have Hv:=Qh hv
 have Hvr:=Qh hvr
 have Hl:=Qh hl
 have Hk:=Qh hk
 obtain ⟨dB,okB,hdB⟩:∃dB okB,dftP date []=(dB,okB):=⟨_,_,rfl⟩
 rw [hdB] at hb
 dsimp only at hb
 have HB:=Qh hb
 have HdB:=Qh hdB
 obtain ⟨ao,cap,rfl,_,_,_⟩:=id hv
 obtain ⟨ro,rcap,rfl,_,_,_⟩:=id hvr
 clear hI hv hl hlo hvr hk hb hdB hwt
 go_enter Tryz.func11,Tryz.ntmps11
 go_wp2_with fail
 refine (HB.out).mono ?_
 rintro e1 w1 ⟨ve1,vk1,vt1,vh1,J1,rfl,hb1,hx1,hok1,hrd1⟩
 obtain ⟨ae1,ce1,rfl,_,_,_⟩:=id hrd1.ents
 obtain ⟨ak1,ck1,rfl,_,_,_⟩:=id hrd1.cks
 obtain ⟨at1,ct1,rfl,_,_,_⟩:=id hrd1.tree
 obtain ⟨ah1,ch1,rfl,_,_,_⟩:=id hrd1.holds
 go_upto_region 2 with (
  refine Xab rfl rfl 43 _ _ rfl w1.heap.size 0 (drCs dB (.slice ae1 dB.ents.length ce1) (.slice ak1 dB.sto.cks.length ck1) (.slice at1 dB.tree.length ct1) (.slice ah1 dB.holds.length ch1)) (drV dB (.slice ae1 dB.ents.length ce1) (.slice ak1 dB.sto.cks.length ck1) (.slice at1 dB.tree.length ct1) (.slice ah1 dB.holds.length ch1)) (by simp [Act.eval]) (by simp [Act.eval]) (by rfl) zeroD 43 (heap_alloc_new _ _) (by simp) (by kernel_rfl) (by simp [Value.oneCell']) (drCs dB (.slice ae1 dB.ents.length ce1) (.slice ak1 dB.sto.cks.length ck1) (.slice at1 dB.tree.length ct1) (.slice ah1 dB.holds.length ch1)).toArray (by rfl) ?_
  intro w2 hg2 hr2)
 have hb2:Below w1.heap.size w1 w2:=((Qb _ _).alloc (Qn _) _).grown hg2 (by simp) (fun k e=>by injection e with e;omega)
 have hf1:J1 w1.heap.size=none:=hok1.fresh (Qn _)
 have A2:=Qh ((A0.out.ext hb1 hx1 hok1).quiet hb2)
 have D2:=Qh (show WrB J1 w2 w1.heap.size dB _ _ _ _ from ⟨A2.out.ok,hf1,hrd1,hr2⟩)
 clear hb1 hx1 hok1 hrd1 hg2 hr2 hb2 hf1 A0 HB
 generalize w1.heap.size=B at D2 ⊢
 by_cases q:begErr [] date=0
 case neg=>
  obtain ⟨e1,rfl⟩:=Prod.mk.inj (HdB.out.symm.trans ((Xhz date).trans (if_pos q)))
  clear e1 q HdB
  go_wp2_with fail
  refine (Haw.out _ A2.out.keep _ A2.out.ok).mono ?_
  rintro e9 w9 ⟨rfl,hb9⟩
  have A9:=Qh (A2.out.quiet hb9)
  go_wp2
  go_ret
  exact ⟨rfl,A9.out.bel⟩
 obtain ⟨e1,rfl⟩:=Prod.mk.inj (HdB.out.symm.trans ((Xhz date).trans (if_neg (fun h=>h q))))
 have HdO:=Qh (show DrOk 0 dB by rw [e1];exact Xho Xec (by decide) (by decide) q)
 have Hdf:=Qh (fun L=>(show dftP date L=(foldD dB L,true) by rw [dftP,if_neg (by rw [q];decide),e1]))
 have Hde:=Qh (show dB.ents= [] by rw [e1];rfl)
 clear q HdB e1
 go_wp2_with fail
 refine (Hgr.out _ A2.out.keep _ A2.out.ok).mono ?_
 rintro e3 w3 ⟨rfl,hb3⟩
 have A3:=Qh (A2.out.quiet hb3)
 have D3:=Qh (D2.out.below hb3)
 clear hb3 A2 D2 Hgr
 by_cases g:12<l.length∨1500<weightP rs
 ·rw [Qt g]
  clear g
  go_wp2_with fail
  refine (Haw.out _ A3.out.keep _ A3.out.ok).mono ?_
  rintro e9 w9 ⟨rfl,hb9⟩
  have A9:=Qh (A3.out.quiet hb9)
  go_wp2
  go_ret
  exact ⟨rfl,A9.out.bel⟩
 rw [Qf g]
 go_wp2_with fail
 refine (Hck.out _ A3.out.keep _ A3.out.ok).mono ?_
 rintro e4 w4 ⟨rfl,hb4⟩
 have A4:=Qh (A3.out.quiet hb4)
 have D4:=Qh (D3.out.below hb4)
 clear hb4 A3 D3 Hck
 by_cases h0:accsErr l=0
 case neg=>
  have i1:(accsErr l != 0)=true:=by simpa using h0
  clear h0 g
  go_wp2_with fail
  refine (Haw.out _ A4.out.keep _ A4.out.ok).mono ?_
  rintro e9 w9 ⟨rfl,hb9⟩
  have A9:=Qh (A4.out.quiet hb9)
  go_wp2
  go_ret
  exact ⟨rfl,A9.out.bel⟩
 have i1:(accsErr l != 0)=false:=by simp [h0]
 have Hf:=Qh (show AccsFit l from ⟨AccsOk.of h0,fun a ha=>(Hl.out a ha).b1,fun a ha=>(Hl.out a ha).f1,by omega⟩)
 have Hwf:=Qh (Xr8 Hk.out (show weightP rs≤1500 by omega))
 have hi1:=Xfa J1 (HG.out.mono A4.out.keep) dB HdO.out _ _ _ _ D4.out.rd _ l (Hv.out.mono A4.out.keep) Hf.out _ rs (Hvr.out.mono A4.out.keep) Hwf.out.1 Hwf.out.2 w4 A4.out.ok
 obtain ⟨hs1,hs2,hs3⟩:=Xkk Hde.out Hf.out.ok rs
 obtain ⟨s,hs⟩:∃s,ingP dB l rs=s:=⟨_,rfl⟩
 rw [hs] at hi1 hs1 hs2 hs3
 have Hi1:=Qh hi1
 have Hs1:=Qh hs1
 have Hs2:=Qh hs2
 have Hs3:=Qh hs3
 obtain ⟨b0,b1,b2,b3,b4,b5,b6,b7,b8⟩:=drB_row (d:=dB) D4.out.row
 clear h0 g hs hi1 HdO hs1 hs2 hs3 Hde
 go_wp2_with fail
 refine (Hi1.out).mono ?_
 rintro e5 w5 ⟨ve5,vk5,vt5,vh5,va5,vs5,J5,rfl,hb5,hx5,hok5,hrd5,hra5,hrs5⟩
 obtain ⟨ae5,ce5,rfl,_,_,_⟩:=id hrd5.ents
 obtain ⟨ak5,ck5,rfl,_,_,_⟩:=id hrd5.cks
 obtain ⟨at5,ct5,rfl,_,_,_⟩:=id hrd5.tree
 obtain ⟨ah5,ch5,rfl,_,_,_⟩:=id hrd5.holds
 obtain ⟨aa5,ca5,rfl,_,_,_⟩:=id hra5
 obtain ⟨as5,cs5,rfl,_,_,_⟩:=id hrs5
 go_upto_region 5 with (
  refine Xab rfl rfl 43 _ _ rfl w5.heap.size 0 (drCs s.d (.slice ae5 s.d.ents.length ce5) (.slice ak5 s.d.sto.cks.length ck5) (.slice at5 s.d.tree.length ct5) (.slice ah5 s.d.holds.length ch5)) (drV s.d (.slice ae5 s.d.ents.length ce5) (.slice ak5 s.d.sto.cks.length ck5) (.slice at5 s.d.tree.length ct5) (.slice ah5 s.d.holds.length ch5)) (by simp [Act.eval]) (by simp [Act.eval]) (by rfl) zeroD 43 (heap_alloc_new _ _) (by simp) (by kernel_rfl) (by simp [Value.oneCell']) (drCs s.d (.slice ae5 s.d.ents.length ce5) (.slice ak5 s.d.sto.cks.length ck5) (.slice at5 s.d.tree.length ct5) (.slice ah5 s.d.holds.length ch5)).toArray (by rfl) ?_
  intro w6 hg6 hr6)
 have hb6:Below w5.heap.size w5 w6:=((Qb _ _).alloc (Qn _) _).grown hg6 (by simp) (fun k e=>by injection e with e;omega)
 have hf5:J5 w5.heap.size=none:=hok5.fresh (Qn _)
 have A6:=Qh ((A4.out.ext hb5 hx5 hok5).quiet hb6)
 have E6:=Qh (show WrB J5 w6 w5.heap.size s.d _ _ _ _ from ⟨A6.out.ok,hf5,hrd5,hr6⟩)
 have HS6:=Qh hrs5
 have hsz6:=hg6.size
 simp only [World.size_alloc] at hsz6
 have hB6w:w.heap.size≤w5.heap.size:=Nat.le_trans A4.out.size hb5.size
 clear hb5 hx5 hok5 hrd5 hra5 hrs5 hr6 hb6 hf5 A4 D4 Hi1 b0 b1 b2 b3 b4 b5 b6 b7 b8
 clear hg6
 generalize w5.heap.size=B6 at E6 hsz6 hB6w ⊢
 go_wp2_with fail
 go_loopw [12,13,14,47] (fun s12 _ _ s47 wr=> ∃k:Nat,k≤rs.length∧s47= .int .i64 k∧MAt I w J5 wr∧WrB J5 wr B6 s.d (.slice ae5 s.d.ents.length ce5) (.slice ak5 s.d.sto.cks.length ck5) (.slice at5 s.d.tree.length ct5) (.slice ah5 s.d.holds.length ch5)∧
  OwnS tChg 25 J5 wr (B6+1) s12 (accK rs s.es k)∧(∀g,s12.ownBlock=some g→J5 g=none)) (fun _ _ _ i _=>rs.length-(intOf i).toNat)
 case atStart=>exact ⟨0,Nat.zero_le _,rfl,A6.out,E6.out,OwnS.nil _ _ _ _ _,fun g e=>(by cases e)⟩
 case round=>
  clear A6 E6
  obtain ⟨k,hk,rfl,hA,hE,hO,hN⟩:=hrel
  have A:=Qh hA
  have E:=Qh hE
  have HO:=Qh hO
  have HN:=Qh hN
  have hEl:=hE.lt
  clear hA hE hO hN
  by_cases hlt:k<rs.length
  ·obtain ⟨r,va,b,off,cap',hlr,hvv,hR,hva⟩:=rqAt (Hvr.out.mono A.out.keep) A.out.ok k hlt
   cases hvv
   have hke:k<s.es.length:=by rw [Hs1.out];exact hlt
   obtain ⟨ek,b2,off2,cap2,hle,hvv,hc⟩:=Xra HS6.out A.out.ok k hke
   cases hvv
   obtain ⟨c0,c1,c2,c3,c4,c5⟩:=(⟨hR.c0,hR.c1,hR.c2,hR.c3,hR.c4,hR.c5⟩:_∧_∧_∧_∧_∧_)
   have Hac:=Qh (Xpz Hs1.out hlt hke hlr hle)
   have hlen:=Xmc rs s.es k
   have hrs:=Hwf.out.2
   obtain ⟨oa,ca,rfl,_,_,_⟩:=id hva
   have Aa:=Qh (A.out.past (.cells #[S r.owner,.int .i64 r.c.kind,S r.c.path,.slice oa r.c.attrs.length ca,S r.c.target,S r.c.content] 27))
   have Ea:=Qh (E.out.below ((Qb _ _).alloc (Qn _) (.cells #[S r.owner,.int .i64 r.c.kind,S r.c.path,.slice oa r.c.attrs.length ca,S r.c.target,S r.c.content] 27)))
   have HOa:=Qh (HO.out.alloc (.cells #[S r.owner,.int .i64 r.c.kind,S r.c.path,.slice oa r.c.attrs.length ca,S r.c.target,S r.c.content] 27))
   have hc':=Xad (.cells #[S r.owner,.int .i64 r.c.kind,S r.c.path,.slice oa r.c.attrs.length ca,S r.c.target,S r.c.content] 27) hc
   have Hva:=Qh hva
   have i0:decide ((k:Int)<(s.es.length:Int))=true:=Qt (by omega)
   clear hR hlr hle hva A E HO
   by_cases h0:ek=0
   ·subst h0
    rw [if_pos rfl] at Hac
    go_upto_region 11 with (
     at_builtin
     refine Xbb Xrn rfl _ _ rfl (B:=B6+1) rfl (HOa.out.alloc _) (vx:= .slice (some ⟨(wr.alloc (.cells #[S r.owner,.int .i64 r.c.kind,S r.c.path,.slice oa r.c.attrs.length ca,S r.c.target,S r.c.content] 27)).heap.size,0,none⟩) 1 1) (by simp [Act.eval]) (SrcS.of_one (T:=tChg) (x:=r.c) (cs:=chgCs r.c (.slice oa r.c.attrs.length ca)) ⟨_,rfl,Hva.out⟩ (fun j u hu=>by rw [World.cell?_alloc_new];simpa using hu)) (by simp only [List.length_singleton];omega) (by simp only [List.length_singleton];omega) (by simp;omega) ?_
     intro v7 w7 ho7 hg7 hl7)
    have A7:=Qh ((Aa.out.past (.cells (chgCs r.c (.slice oa r.c.attrs.length ca)).toArray 25)).ownO hg7 (fun g e=>⟨HN.out g e,by have:=HOa.out.own_ge e;omega⟩))
    have E7:=Qh ((Ea.out.below ((Qb _ _).alloc (Qn _) (.cells (chgCs r.c (.slice oa r.c.attrs.length ca)).toArray 25))).ownO hg7 HN.out (HOa.out.ne_lt (by omega)))
    have HO7:=Qh ho7
    have HN7:=Qh (fun g e=>(hl7 g e).elim (HN.out g) (fun q=>Aa.out.ok.fresh (by simp at q ⊢;omega)):∀g,v7.ownBlock=some g→J5 g=none)
    clear ho7 hg7 hl7 Aa Ea HOa c0 c1 c2 c3 c4 c5 hc' hc
    go_wp2_with fail
    go_roundw
    case rel=>exact ⟨k+1,by omega,by go_num,A7.out,E7.out,by rw [Hac.out];exact HO7.out,HN7.out⟩
    case measure=>simp [intOf];omega
   ·rw [if_neg h0,List.append_nil] at Hac
    have i1:(ek==0)=false:=by simpa using h0
    clear h0
    go_wp2_with fail
    go_roundw
    case rel=>exact ⟨k+1,by omega,by go_num,Aa.out,Ea.out,by rw [Hac.out];exact HOa.out,HN.out⟩
    case measure=>simp [intOf];omega
  ·have hke:k=rs.length:=by omega
   subst hke
   have hlen:=Xmc rs s.es rs.length
   have hrs:=Hwf.out.2
   obtain ⟨J',hkeep,_,hok',hrC,hne'⟩:=HO.out.freezeA A.out.ok HN.out
   have A1:=Qh (show MAt I w J' wr from ⟨hok',fun b c h=>hkeep b c (A.out.keep b c h),A.out.bel⟩)
   have E1:=Qh (show WrB J' wr B6 s.d _ _ _ _ from ⟨hok',(hne' B6 (HO.out.ne_lt (by omega))).trans E.out.no,E.out.rd.mono hkeep,E.out.row⟩)
   have hd2:=Hs2.out
   have hd3:=Hs3.out
   have hCm:∀c∈accK rs s.es rs.length,c.Wf∧c.attrs.length≤1000000:=fun c hc=>by obtain ⟨r,hr,rfl⟩:=Xr4 hc;exact Hwf.out.1 r hr
   obtain ⟨C,hC⟩:∃C,accK rs s.es rs.length=C:=⟨_,rfl⟩
   rw [hC] at hd2 hd3 hrC hlen hCm
   have Hei:=Qh (Xuk hd3)
   have hdr:=Xfl J' (HG.out.mono A1.out.keep) date _ C hrC hCm (by have:=Hwf.out.2;omega) wr A1.out.ok
   rw [Hdf.out C] at hdr
   dsimp only at hdr
   rw [←hd2] at hdr
   have Hdr:=Qh hdr
   have HC:=Qh hrC
   have i2:((s.d.ents.length:Int) != (C.length:Int))=false:=by rw [Hei.out.1];simp
   obtain ⟨oC,cC,rfl,_,_,_⟩:=id hrC
   clear hkeep hok' hrC hne' A E HO HN hd2 hd3 hC hdr hCm
   go_wp2_with fail
   refine (Hdr.out).mono ?_
   rintro e8 w8 ⟨ve8,vk8,vt8,vh8,J8,rfl,hb8,hx8,hok8,hrd8⟩
   obtain ⟨ae8,ce8,rfl,_,_,_⟩:=id hrd8.ents
   obtain ⟨ak8,ck8,rfl,_,_,_⟩:=id hrd8.cks
   obtain ⟨at8,ct8,rfl,_,_,_⟩:=id hrd8.tree
   obtain ⟨ah8,ch8,rfl,_,_,_⟩:=id hrd8.holds
   go_upto_region 13 with (
    refine Xab rfl rfl 43 _ _ rfl w8.heap.size 0 (drCs s.d (.slice ae8 s.d.ents.length ce8) (.slice ak8 s.d.sto.cks.length ck8) (.slice at8 s.d.tree.length ct8) (.slice ah8 s.d.holds.length ch8)) (drV s.d (.slice ae8 s.d.ents.length ce8) (.slice ak8 s.d.sto.cks.length ck8) (.slice at8 s.d.tree.length ct8) (.slice ah8 s.d.holds.length ch8)) (by simp [Act.eval]) (by simp [Act.eval]) (by rfl) zeroD 43 (heap_alloc_new _ _) (by simp) (by kernel_rfl) (by simp [Value.oneCell']) (drCs s.d (.slice ae8 s.d.ents.length ce8) (.slice ak8 s.d.sto.cks.length ck8) (.slice at8 s.d.tree.length ct8) (.slice ah8 s.d.holds.length ch8)).toArray (by rfl) ?_
    intro w9 hg9 hr9)
   have hb9:Below w8.heap.size w8 w9:=((Qb _ _).alloc (Qn _) _).grown hg9 (by simp) (fun k e=>by injection e with e;omega)
   have hf8:J8 w8.heap.size=none:=hok8.fresh (Qn _)
   have A9:=Qh ((A1.out.ext hb8 hx8 hok8).quiet hb9)
   have E9:=Qh ((E1.out.ext hb8 hx8 hok8).below hb9)
   have F9:=Qh (show WrB J8 w9 w8.heap.size s.d _ _ _ _ from ⟨A9.out.ok,hf8,hrd8,hr9⟩)
   have HC9:=Qh (HC.out.mono (hx8.keep A1.out.ok (Qn _)))
   clear hb8 hx8 hok8 hrd8 hg9 hr9 hb9 hf8 A1 E1 HC Hdr
   generalize w8.heap.size=B8 at F9 ⊢
   obtain ⟨b0,b1,b2,b3,b4,b5,b6,b7,b8⟩:=drB_row (d:=s.d) E9.out.row
   go_wp2_with fail
   clear b0 b1 b2 b3 b4 b5 b6 b7 b8 i2
   go_loopw [17,18,87] (fun _ _ s87 wr=> ∃k:Nat,k≤C.length∧s87= .int .i64 k∧Below w9.heap.size w9 wr) (fun _ _ i _=>C.length-(intOf i).toNat)
   case atStart=>exact ⟨0,Nat.zero_le _,rfl,Qb _ _⟩
   case round=>
    obtain ⟨k,hk,rfl,hb⟩:=hrel
    have A7:=Qh (A9.out.quiet hb)
    have E7:=Qh (E9.out.below hb)
    have F7:=Qh (F9.out.below hb)
    by_cases hlt2:k<C.length
    ·obtain ⟨x,va,b,off,cap',hlx,hvv,⟨c0,c1,c2,c3,c4⟩,hva⟩:=Xun HC9.out A7.out.ok k hlt2
     cases hvv
     obtain ⟨oa,ca,rfl,_,_,_⟩:=id hva
     have hke:k<s.d.ents.length:=by rw [Hei.out.1];exact hlt2
     obtain ⟨y,va2,vx2,b2,off2,cap2,hly,hvv,hY,_,_⟩:=Xd8 E7.out.rd.ents A7.out.ok k hke
     cases hvv
     have hkp:=Hei.out.2 k hke hlt2
     rw [hlx,hly] at hkp
     have E8:=Qh (E7.out.below ((Qb _ _).alloc (Qn _) (.cells #[.int .i64 x.kind,S x.path,.slice oa x.attrs.length ca,S x.target,S x.content] 25)))
     obtain ⟨b0,b1,b2,b3,b4,b5,b6,b7,b8⟩:=drB_row (d:=s.d) E8.out.row
     have e3:=cell_regrown b3
     have e0:=cell_regrown (Xad (.cells #[.int .i64 x.kind,S x.path,.slice oa x.attrs.length ca,S x.target,S x.content] 25) hY.c0)
     have e1:=cell_regrown (Xad (.cells #[.int .i64 x.kind,S x.path,.slice oa x.attrs.length ca,S x.target,S x.content] 25) hY.c1)
     have hbox:=heap_alloc_new wr (.cells #[.int .i64 x.kind,S x.path,.slice oa x.attrs.length ca,S x.target,S x.content] 25)
     have y0:(wr.alloc (.cells #[.int .i64 x.kind,S x.path,.slice oa x.attrs.length ca,S x.target,S x.content] 25)).cell? ⟨wr.heap.size,0,none⟩=some _:=(cell_of_row _ _ 0 _ _ _ hbox).trans rfl
     have y1:(wr.alloc (.cells #[.int .i64 x.kind,S x.path,.slice oa x.attrs.length ca,S x.target,S x.content] 25)).cell? ⟨wr.heap.size,1,none⟩=some _:=(cell_of_row _ _ 1 _ _ _ hbox).trans rfl
     have g0:=cell_regrown y0
     have g1:=cell_regrown y1
     have i3:((y.kind:Int) != x.kind)=false:=by rw [hkp.1];simp
     have i4:(y.path==x.path)=true:=by rw [hkp.2];simp
     have i5:(!y.path==x.path)=false:=by rw [i4];rfl
     clear b0 b1 b2 b3 b4 b5 b6 b7 b8 hbox y0 y1 hkp hY hly hlx E8 hva
     go_wp2_with fail
     refine wp_region_quiet_below (by kernel_rfl) (by kernel_rfl) ?_
     repeat (go_big_quiet_step ((fail)))
     refine wpQuiet_nil ?_
     intro w11 hwq
     have hb11:Below (wr.alloc (.cells #[.int .i64 x.kind,S x.path,.slice oa x.attrs.length ca,S x.target,S x.content] 25)).heap.size (wr.alloc (.cells #[.int .i64 x.kind,S x.path,.slice oa x.attrs.length ca,S x.target,S x.content] 25)) w11:=by
      obtain ⟨pq,rfl⟩:=hwq
      exact below_regrown _ _ _
     clear hwq
     go_wp2
     go_roundw
     case rel=>exact ⟨k+1,by omega,by go_num,(hb.alloc hb.size _).trans (hb11.mono (by have:=hb.size;simp;omega))⟩
     case measure=>simp [intOf];omega
    ·obtain ⟨b0,b1,b2,b3,b4,b5,b6,b7,b8⟩:=drB_row (d:=s.d) E7.out.row
     obtain ⟨c0,c1,c2,c3,c4,c5,c6,c7,c8⟩:=drB_row (d:=s.d) F7.out.row
     go_wp2_with fail
     refine (Xhk J8 s.d _ _ _ _ _ _ _ _ E7.out.rd F7.out.rd wr A7.out.ok).mono ?_
     rintro e10 w10 ⟨rfl,hb10⟩
     have A10:=Qh (A7.out.quiet hb10)
     clear hb10 A7 E7 F7 b0 b1 b2 b3 b4 b5 b6 b7 b8 c0 c1 c2 c3 c4 c5 c6 c7 c8
     go_wp2_with fail
     refine (Haw.out _ A10.out.keep _ A10.out.ok).mono ?_
     rintro e11 w11 ⟨rfl,hb11⟩
     have A11:=Qh (A10.out.quiet hb11)
     go_wp2
     go_ret
     exact ⟨rfl,A11.out.bel⟩
end Go.Proofs.YtmdfjnhfhidmhaaGreatDoor
namespace Go.Proofs.YtmdfjnhfhidmhaaGreatDoor
open Go.ChangeShapes Go.WideShapes Go.ChangeAt Go.RowKit
def HeapI (w:World):IH:=fun b=>match w.heap[b]? with|some (.cells c _ _)=>some c|_=>none
theorem HeapI.ok (w:World):Ok (HeapI w) w:=by
 intro b c h
 unfold HeapI at h
 split at h
 ·rename_i c' e f hb
  cases h
  exact ⟨e,f,hb⟩
 ·cases h
theorem HeapI.of_var {P:Program} {w:World} {name:String} {g:Nat} {cs:Array Value} (hg:P.globalNamed name=some g) (h:w.var? P name=some cs):HeapI w g=some cs:=by
 unfold World.var? at h
 rw [hg,Option.bind_some] at h
 unfold HeapI
 split at h
 ·rename_i hb;cases h;rw [hb]
 ·cases h
theorem HeapI.of_cell {w:World} {a:Addr} {x:Value} (h:w.cell? a=some x):a.spot=none∧ ∃c,HeapI w a.block=some c∧c[a.off]? =some x:=by
 unfold World.cell? at h
 unfold HeapI
 split at h
 ·rename_i c e f hb
  split at h
  ·cases h
  ·rename_i hs
   refine ⟨by cases hsp:a.spot<;>simp_all,c,by rw [hb],h⟩
 ·cases h
def Opens {α:Type} (P:Program) (t:TypeId) (T:Ty α) (Wf:α→Prop):Prop:=
 P.cellsOf t=T.size∧0<T.size∧ ∀ {H:Type} {enc:TypeId × Value→H} {w:World} {base:Nat} {spare:Nat→Bool} {held:Bool} {fuel:Nat} {cs:List Value} {x:DataW H × List MemPlace},
  DataW.trod enc P w base spare held fuel t cs=some x→ ∃y,T.rd (HeapI w) cs y∧Wf y
section
variable {α:Type} {P:Program} {T:Ty α} {Wf:α→Prop}
variable {H:Type} {enc:TypeId × Value→H} {w:World} {base:Nat} {spare:Nat→Bool} {held:Bool} {fuel:Nat} {cs:List Value} {x:DataW H × List MemPlace}
end
theorem Xuz {α:Type}:∀ {l:List α},l.length=2→ ∃a b,l= [a,b]
 | [a,b],_=>⟨a,b,rfl⟩
theorem Xug {α:Type}:∀ {l:List α},l.length=5→ ∃a b c d e,l= [a,b,c,d,e]
 | [a,b,c,d,e],_=>⟨a,b,c,d,e,rfl⟩
theorem Xdg {H:Type} {enc:TypeId × Value→H} {P:Program} (hl:laidOutB P=true) {W W':World} (hb:Below W.heap.size W W'):
 ∀ {ts:List TypeId} {vs:List Value} {ds:List (DataW H)} {p:List MemPlace},(ts.all fun t=>P.readableRec t&&decide (t<P.types.size))=true→
 DataW.TrodAll enc P W 0 (fun _=>true) true ts vs ds p→(∀x∈p,x.block<W.heap.size)→DataW.TrodAll enc P W' 0 (fun b=>decide (b<W.heap.size)) true ts vs ds p
 | [],[],[],_,_,h,_=>h
 | [],[],_::_,_,_,h,_=>h.elim
 | [],_::_,_,_,_,h,_=>h.elim
 |_::_,[],_,_,_,h,_=>h.elim
 |_::_,_::_,[],_,_,h,_=>h.elim
 |t::ts,v::vs,d::ds,p,ha,h,hlt=>by
  obtain ⟨q,r,h1,h2,rfl⟩:=h
  simp only [List.all_cons,Bool.and_eq_true,decide_eq_true_eq] at ha
  exact ⟨q,r,hb.trod hl ha.1.1 ha.1.2 h1 (fun x hx=>hlt x (List.mem_append_left _ hx)),Xdg hl hb ha.2 h2 (fun x hx=>hlt x (List.mem_append_right _ hx)),rfl⟩
theorem Xla {H:Type} {enc:TypeId × Value→H} {P:Program} (hl:laidOutB P=true) {f:Func} {s:ChangeSpec} {W W':World} {args:Array Value} {ds:List (DataW H)} {before:List MemPlace} {tb:TypeId}
 (hs:s.vars= []) (hW:DataW.Whole enc P f.params.toList s.vars false W args.toList ds [] before) (hr:f.resultTypes= #[tb]) (hu:P.underlying tb=some .bool)
 (hfn:s.fn H (ds++ [])= { results:= [.lit (.bool true)],args:=ds }) (hall:(f.params.toList.all fun t=>P.readableRec t&&decide (t<P.types.size))=true) (hb:Below W.heap.size W W'):
 s.post enc P f false true false false W args (.bool true) W':=by
 have hlt:∀p∈before,p.block<W.heap.size:=fun p hp=>hW.lt p hp
 have hW':=hW
 obtain ⟨p,q,hA,hV,rfl,_,_⟩:=hW'
 rw [hs] at hV
 have hq:q= []:=hV
 subst hq
 refine ⟨ds,[],_,[],p,[],hW,?_,?_,?_,World.keptBut_mono (fun x hx=>⟨hx,?_⟩) (hb.frame (· ∈p++ [])),fun h=>by cases h⟩
 ·rw [hfn,hr];exact trodAll_mk1 (shut_bool hu true)
 ·rw [hfn];exact Xdg hl hb hall hA (fun x hx=>hlt x (List.mem_append_left _ hx))
 ·rw [hfn,hs];rfl
 ·exact .inr (.inl (by simpa using hx))
end Go.Proofs.YtmdfjnhfhidmhaaGreatDoor
namespace Go.Proofs.YtmdfjnhfhidmhaaGreatDoor
open Go.ChangeShapes Go.WideShapes Go.ChangeAt Go.RowKit
theorem own:ownKnob Tryz.prog.godebug=none:=by kernel_rfl
theorem Xor:laidOutB Tryz.prog=true:=by kernel_rfl
theorem Xuy {α:Type}:∀ {l:List α},l.length=6→ ∃a b c d e f,l= [a,b,c,d,e,f]
 | [a,b,c,d,e,f],_=>⟨a,b,c,d,e,f,rfl⟩
theorem Xos {P:Program} {w:World} {r:Reach} {b0:Nat} {t:TypeId} {k:IntKind} {v:Value} (ht:P.underlying t=some (.int k)) (hv:Value.okWide P w r b0 t v):∃n:Int,v= .int k n∧k.min≤n∧n≤k.max:=by
 obtain ⟨n,rfl⟩:=okWide_int ht hv
 simp [Value.okWide,ht,Cell.okWide,Cell.ok,IntKind.has] at hv
 exact ⟨n,rfl,hv.1,hv.2⟩
theorem Xgx {P:Program} {n nm:String} {d:DataW Unit} {r:List (String × DataW Unit)} {W:World} {g:Nat} {ti:TypeId} {ms:Array (String × TypeId)}
 (h:laidMet P ((n,.iface nm d)::r) W) (hg:P.globalNamed n=some g) (ht:(P.globals[g]?).map (·.type)=some ti) (hi:P.underlying ti=some (.interface ms)):
 ∃tp p,W.var? P n=some #[.iface tp p]:=by
 obtain ⟨ps,⟨g0,t0,cs0,f0,p0,q0,hg0,ht0,hv0,hd0,_,e0⟩,_,hrows⟩:=h
 obtain rfl:=Option.some.inj (hg.symm.trans hg0)
 obtain rfl:=Option.some.inj (ht.symm.trans ht0)
 subst e0
 obtain ⟨l0⟩:=cs0
 obtain ⟨f1,u,v,hcs,_,_⟩:=iface_of_trod hi hd0
 have hcs':l0= [.iface u v]:=hcs
 subst hcs'
 exact ⟨u,v,hv0⟩
theorem Xej {W:World} (h:laidMetH Tryz.prog Rows.sessionWritesRow.laid W) (hsh:W.ShapedOpen Tryz.prog):Glob (HeapI W):=by
 rw [MakeChecks.laidMetH_plain _ _ _ (by kernel_rfl)] at h
 have h2 : Lib.TabIs Tryz.prog W "internal/strconv.uint64pow10" .u64 Lib.pow10Tab :=
  Lib.tabIs_of_head (t:=305) (e:=210) (n:=20) (g:=5) (rest:=(Rows.sessionWritesRow.laid).drop 3) (by kernel_rfl) (by kernel_rfl) Tryz.underlying305 Tryz.underlying210 (by kernel_rfl) (by kernel_rfl) h.tail.tail
 obtain ⟨tp1,p1,h3⟩:=Xgx (ti:=191) (g:=2) h.tail.tail.tail.tail (by kernel_rfl) (by kernel_rfl) Tryz.underlying191
 obtain ⟨tp2,p2,h4⟩:=Xgx (ti:=191) (g:=1) h.tail.tail.tail.tail.tail (by kernel_rfl) (by kernel_rfl) Tryz.underlying191
 obtain ⟨m,hm⟩:=cell_of_shapedOpen_int (g:=0) (zero:= #[.int .i64 0]) (t:=3) hsh (of_decide_eq_true (by kernel_rfl)) (by kernel_rfl) rfl (by kernel_rfl) (by kernel_rfl) Tryz.underlying3
 obtain ⟨_,c,hc1,hc2⟩:=HeapI.of_cell hm
 exact ⟨HeapI.of_var (by kernel_rfl) h2,⟨c,m,hc1,hc2⟩,⟨tp2,p2,HeapI.of_var (by kernel_rfl) h4⟩,⟨tp1,p1,HeapI.of_var (by kernel_rfl) h3⟩⟩
section
variable {H:Type} {enc:TypeId × Value→H}
end
section
variable {H:Type} {enc:TypeId × Value→H}
end
end Go.Proofs.YtmdfjnhfhidmhaaGreatDoor
namespace Go.Proofs.YtmdfjnhfhidmhaaGreatDoor
open Go.ChangeShapes Go.WideShapes Go.ChangeAt Go.RowKit
theorem Xuo {H:Type} (d:DataW H):1≤Rows.uptoBulk d:=by
 cases d with
 |lit l=>cases l<;>simp [Rows.uptoBulk]
 |nil=>simp [Rows.uptoBulk]
 |ptr d=>simp [Rows.uptoBulk]
 |slice elems spare=>simp [Rows.uptoBulk]
 |agg parts=>simp [Rows.uptoBulk]
 |iface t d=>simp [Rows.uptoBulk]
 |map entries=>simp [Rows.uptoBulk]
 |held h=>simp [Rows.uptoBulk]
theorem Xkt {H:Type} {d:DataW H} {l:List (DataW H)} (h:d∈l):Rows.uptoBulk d≤Rows.uptoBulkAll l:=by
 induction l with
 |nil=>cases h
 |cons x r ih=>
  simp only [Rows.uptoBulkAll]
  cases List.mem_cons.1 h with
  |inl e=>subst e;omega
  |inr e=>have:=ih e;omega
theorem Xup {H:Type} (l:List (DataW H)):l.length≤Rows.uptoBulkAll l:=by
 induction l with
 |nil=>simp [Rows.uptoBulkAll]
 |cons x r ih=>have:=Xuo x;simp only [Rows.uptoBulkAll,List.length_cons];omega
theorem Xf5 {H:Type} (bytes:List UInt8):Rows.uptoBulk (DataW.lit (H:=H) (.string bytes))=bytes.length+1:=by simp [Rows.uptoBulk]
theorem Xl5 {H:Type} {ds gs:List (DataW H)} (h:Rows.uptoSmall H (ds++gs)=true) {d:DataW H} (hd:d∈ds):Rows.uptoBulk d≤1048576:=by
 have h2:Rows.uptoBulkAll (ds++gs)≤1048576:=of_decide_eq_true h
 exact Nat.le_trans (Xkt (List.mem_append_left _ hd)) h2
def OpensN {α:Type} (P:Program) (t:TypeId) (T:Ty α) (Wf:α→Prop):Prop:=
 P.cellsOf t=T.size∧0<T.size∧ ∀ {H:Type} {enc:TypeId × Value→H} {w:World} {base:Nat} {spare:Nat→Bool} {held:Bool} {fuel:Nat} {cs:List Value} {x:DataW H × List MemPlace},
  DataW.trod enc P w base spare held fuel t cs=some x→Rows.uptoBulk x.1≤1048576→ ∃y,T.rd (HeapI w) cs y∧Wf y
section
variable {α:Type} {P:Program} {T:Ty α} {Wf:α→Prop}
variable {H:Type} {enc:TypeId × Value→H} {w:World} {base:Nat} {spare:Nat→Bool} {held:Bool} {fuel:Nat} {cs:List Value} {x:DataW H × List MemPlace}
theorem OpensN.slice {t e:TypeId} (ht:P.underlying t=some (.slice e)) (he:OpensN P e T Wf) (h:DataW.trod enc P w base spare held fuel t cs=some x) (hb:Rows.uptoBulk x.1≤1048576):
 ∃v l,cs= [v]∧RdS T (HeapI w) v l∧(∀y∈l,Wf y)∧l.length≤1048576:=by
 rcases Go.Deep.open_slice ht h with ⟨rfl,_⟩|⟨a,len,cap,m,n,D,Pl,rfl,_,hl,hm,hmm,rfl,hi⟩
 ·exact ⟨_,[],rfl,RdS.nil _ _,fun _ h=>absurd h (by simp),by simp⟩
 ·have hlm:len≤m:=by rw [hmm];split<;>omega
  simp only [Rows.uptoBulk] at hb
  have hlen:=Xup ((List.range len).map D)
  rw [List.length_map,List.length_range] at hlen
  have hx:∀i:Fin len,∃y,(∃cs',T.rd (HeapI w) cs' y∧ ∀j u,cs'[j]? =some u→w.cell? (a.add (i.1*T.size+j))=some u)∧Wf y:=by
   intro i
   obtain ⟨cs',hc,ht'⟩:=hi i.1 (by omega)
   rw [he.1] at hc
   have hbi:Rows.uptoBulk (D i.1)≤1048576:=by
    have:=Xkt (show D i.1∈(List.range len).map D from List.mem_map.2 ⟨i.1,List.mem_range.2 i.2,rfl⟩)
    omega
   obtain ⟨y,hy,hwf⟩:=he.2.2 ht' hbi
   obtain ⟨_,hcl,hat⟩:=World.cells?_some hc
   refine ⟨y,⟨cs',hy,fun j u hu=> ?_⟩,hwf⟩
   have hj:=(List.getElem?_eq_some_iff.1 hu).1
   rw [←hu,←hat j (by omega),Go.Deep.add_add]
  obtain ⟨f,hf⟩:=Classical.axiomOfChoice hx
  refine ⟨_,List.ofFn f,rfl,⟨some a,cap,by rw [List.length_ofFn],by rw [List.length_ofFn];exact hl,hm,fun h0=> ?_⟩,fun y hy=> ?_,by rw [List.length_ofFn];omega⟩
  ·rw [List.length_ofFn] at h0
   obtain ⟨cs0,h1,h2⟩:=(hf ⟨0,h0⟩).1
   have hlen:=T.len h1
   have hc0:=h2 0 _ (List.getElem?_eq_getElem (by rw [hlen];exact he.2.1))
   have e0:a.add ((⟨0,h0⟩:Fin len).1*T.size+0)=a:=by simp [Addr.add]
   rw [e0] at hc0
   obtain ⟨hs,c,hc,_⟩:=HeapI.of_cell hc0
   obtain ⟨ab,ao,asp⟩:=a
   change asp=none at hs
   subst hs
   change HeapI w ab=some c at hc
   refine ⟨ab,ao,c,rfl,hc,fun i hi=> ?_⟩
   rw [List.length_ofFn] at hi
   obtain ⟨csi,h3,h4⟩:=(hf ⟨i,hi⟩).1
   refine ⟨csi,by rw [List.getElem_ofFn];exact h3,fun j u hu=> ?_⟩
   have h5:=h4 j u hu
   rw [Addr.add_lit] at h5
   obtain ⟨_,c',hc',h6⟩:=HeapI.of_cell h5
   change HeapI w ab=some c' at hc'
   rw [hc] at hc'
   cases hc'
   exact h6
  ·obtain ⟨i,hi,rfl⟩:=List.getElem_of_mem hy
   rw [List.getElem_ofFn]
   exact (hf _).2
theorem OpensN.arg {t e:TypeId} (ht:P.underlying t=some (.slice e)) (he:OpensN P e T Wf) {r:Reach} {b0:Nat} {v:Value} {d:DataW H} {ps:List MemPlace} (hv:Value.okWide P w r b0 t v) (h:DataW.Trod enc P w base spare held t v d ps) (hb:Rows.uptoBulk d≤1048576):
 ∃l,RdS T (HeapI w) v l∧(∀y∈l,Wf y)∧l.length≤1048576:=by
 obtain ⟨fuel,hf⟩:=h
 obtain ⟨v',l,hcs,h1,h2⟩:=he.slice ht hf hb
 obtain ⟨ao,cap,rfl,_⟩:=id h1
 obtain ⟨ao',n',c',rfl⟩:=okWide_slice ht hv
 simp [Value.cells] at hcs
 obtain ⟨rfl,rfl,rfl⟩:=hcs
 exact ⟨l,h1,h2⟩
end
theorem Xh4 {H:Type} {xs:List (DataW H × List MemPlace)} (hb:Rows.uptoBulk (DataW.agg (xs.map (·.1)))≤1048576) {i:Nat} (hi:i<xs.length):Rows.uptoBulk xs[i].1≤1048576:=by
 simp only [Rows.uptoBulk] at hb
 have:=Xkt (show xs[i].1∈xs.map (·.1) from List.mem_map.2 ⟨xs[i],List.getElem_mem hi,rfl⟩)
 omega
def At.N (x:At):Prop:=x.k.length≤1048576∧x.v.length≤1048576
set_option maxRecDepth 100000 in
theorem at_opensN:OpensN Tryz.prog 107 tAt At.N:=by
 refine ⟨by kernel_rfl,by decide,fun {H enc w base spare held fuel cs x} h hb=> ?_⟩
 obtain ⟨xs,n,_,rfl,hl,hxl,hf⟩:=DataW.trod_struct Tryz.underlying107 h
 have hc:Tryz.prog.cellsOf 107=2:=by kernel_rfl
 have c3:Tryz.prog.cellsOf 9=1:=by kernel_rfl
 rw [hc] at hl
 obtain ⟨a,b,rfl⟩:=Xuz hl
 simp at hxl
 have h0:=hf 0 _ rfl
 have h1:=hf 1 _ rfl
 rw [List.getElem?_eq_getElem (by omega)] at h0 h1
 have g0:=Xh4 hb (show 0<xs.length by omega)
 have g1:=Xh4 hb (show 1<xs.length by omega)
 simp [c3] at h0 h1
 obtain ⟨s,e0,x0,w0⟩:=DataW.trod_string Tryz.underlying9 h0
 obtain ⟨t,e1,x1,w1⟩:=DataW.trod_string Tryz.underlying9 h1
 rw [x0,Xf5] at g0
 rw [x1,Xf5] at g1
 cases e0;cases e1
 exact ⟨⟨s.data.toList,t.data.toList⟩,rfl,by show s.data.toList.length≤_;omega,by show t.data.toList.length≤_;omega⟩
structure Chg.N (c:Chg):Prop where
 k0: -9223372036854775808≤c.kind
 k1:c.kind≤9223372036854775807
 path:c.path.length≤1048576
 target:c.target.length≤1048576
 nattrs:c.attrs.length≤1048576
 content:c.content.length≤1048576
 attrs:∀x∈c.attrs,x.N
set_option maxRecDepth 100000 in
theorem chg_opensN:OpensN Tryz.prog 25 tChg Chg.N:=by
 refine ⟨by kernel_rfl,by decide,fun {H enc w base spare held fuel cs x} h hb=> ?_⟩
 obtain ⟨xs,n,_,rfl,hl,hxl,hf⟩:=DataW.trod_struct Tryz.underlying25 h
 have hc:Tryz.prog.cellsOf 25=5:=by kernel_rfl
 have c2:Tryz.prog.cellsOf 3=1:=by kernel_rfl
 have c3:Tryz.prog.cellsOf 9=1:=by kernel_rfl
 have c4:Tryz.prog.cellsOf 23=1:=by kernel_rfl
 rw [hc] at hl
 obtain ⟨u0,u1,u2,u3,u4,rfl⟩:=Xug hl
 simp at hxl
 have h0:=hf 0 _ rfl
 have h1:=hf 1 _ rfl
 have h2:=hf 2 _ rfl
 have h3:=hf 3 _ rfl
 have h4:=hf 4 _ rfl
 rw [List.getElem?_eq_getElem (by omega)] at h0 h1 h2 h3 h4
 have g1:=Xh4 hb (show 1<xs.length by omega)
 have g2:=Xh4 hb (show 2<xs.length by omega)
 have g3:=Xh4 hb (show 3<xs.length by omega)
 have g4:=Xh4 hb (show 4<xs.length by omega)
 simp [c2,c3,c4] at h0 h1 h2 h3 h4
 obtain ⟨i0,e0,_,w0⟩:=DataW.trod_int Tryz.underlying3 h0
 obtain ⟨s1,e1,x1,w1⟩:=DataW.trod_string Tryz.underlying9 h1
 obtain ⟨v2,l2,e2,r2,m2,n2⟩:=at_opensN.slice Tryz.underlying23 h2 g2
 obtain ⟨s3,e3,x3,w3⟩:=DataW.trod_string Tryz.underlying9 h3
 obtain ⟨s4,e4,x4,w4⟩:=DataW.trod_string Tryz.underlying9 h4
 rw [x1,Xf5] at g1
 rw [x3,Xf5] at g3
 rw [x4,Xf5] at g4
 cases e0;cases e1;cases e2;cases e3;cases e4
 rw [Go.Lit.wf_int_iff] at w0
 have k2:IntKind.i64.min= -9223372036854775808:=rfl
 have k3:IntKind.i64.max=9223372036854775807:=rfl
 refine ⟨⟨i0,s1.data.toList,l2,s3.data.toList,s4.data.toList⟩,⟨u2,rfl,r2⟩,⟨?_,?_,?_,?_,n2,?_,m2⟩⟩
 ·show _≤i0;omega
 ·show i0≤_;omega
 ·show s1.data.toList.length≤_;omega
 ·show s3.data.toList.length≤_;omega
 ·show s4.data.toList.length≤_;omega
structure Rqs.N (r:Rqs):Prop where
 own:r.owner.length≤1048576
 c:r.c.N
set_option maxRecDepth 100000 in
theorem rq_opensN:OpensN Tryz.prog 27 tRq Rqs.N:=by
 refine ⟨by kernel_rfl,by decide,fun {H enc w base spare held fuel cs x} h hb=> ?_⟩
 obtain ⟨xs,n,_,rfl,hl,hxl,hf⟩:=DataW.trod_struct Tryz.underlying27 h
 have hc:Tryz.prog.cellsOf 27=6:=by kernel_rfl
 have c3:Tryz.prog.cellsOf 9=1:=by kernel_rfl
 have c5:Tryz.prog.cellsOf 25=5:=by kernel_rfl
 rw [hc] at hl
 obtain ⟨u0,u1,u2,u3,u4,u5,rfl⟩:=Xuy hl
 simp at hxl
 have h0:=hf 0 _ rfl
 have h1:=hf 1 _ rfl
 rw [List.getElem?_eq_getElem (by omega)] at h0 h1
 have g0:=Xh4 hb (show 0<xs.length by omega)
 have g1:=Xh4 hb (show 1<xs.length by omega)
 simp [c3,c5] at h0 h1
 obtain ⟨s0,e0,x0,w0⟩:=DataW.trod_string Tryz.underlying9 h0
 obtain ⟨c,⟨va,hcs,hva⟩,hN⟩:=chg_opensN.2.2 h1 g1
 rw [x0,Xf5] at g0
 cases e0
 have hcs:[u1,u2,u3,u4,u5]=chgCs c va:=hcs
 injection hcs with q1 hcs
 injection hcs with q2 hcs
 injection hcs with q3 hcs
 injection hcs with q4 hcs
 injection hcs with q5 hcs
 subst q1 q2 q3 q4 q5
 exact ⟨⟨s0.data.toList,c⟩,⟨_,rfl,hva⟩,by show s0.data.toList.length≤_;omega,hN⟩
structure Acc.N (a:Acc):Prop extends a.In where
 own2:a.owner.length≤1048576
set_option maxRecDepth 100000 in
theorem acc_opensN:OpensN Tryz.prog 54 tAcc Acc.N:=by
 refine ⟨by kernel_rfl,by decide,fun {H enc w base spare held fuel cs x} h hb=> ?_⟩
 obtain ⟨xs,n,_,rfl,hl,hxl,hf⟩:=DataW.trod_struct Tryz.underlying54 h
 have hc:Tryz.prog.cellsOf 54=5:=by kernel_rfl
 have c2:Tryz.prog.cellsOf 3=1:=by kernel_rfl
 have c3:Tryz.prog.cellsOf 9=1:=by kernel_rfl
 rw [hc] at hl
 obtain ⟨u0,u1,u2,u3,u4,rfl⟩:=Xug hl
 simp at hxl
 have h0:=hf 0 _ rfl
 have h1:=hf 1 _ rfl
 have h2:=hf 2 _ rfl
 have h3:=hf 3 _ rfl
 have h4:=hf 4 _ rfl
 rw [List.getElem?_eq_getElem (by omega)] at h0 h1 h2 h3 h4
 have g0:=Xh4 hb (show 0<xs.length by omega)
 simp [c2,c3] at h0 h1 h2 h3 h4
 obtain ⟨s0,e0,x0,w0⟩:=DataW.trod_string Tryz.underlying9 h0
 obtain ⟨i1,e1,_,w1⟩:=DataW.trod_int Tryz.underlying3 h1
 obtain ⟨i2,e2,_,w2⟩:=DataW.trod_int Tryz.underlying3 h2
 obtain ⟨i3,e3,_,w3⟩:=DataW.trod_int Tryz.underlying3 h3
 obtain ⟨i4,e4,_,w4⟩:=DataW.trod_int Tryz.underlying3 h4
 rw [x0,Xf5] at g0
 cases e0;cases e1;cases e2;cases e3;cases e4
 rw [Go.Lit.wf_int_iff] at w1 w2 w3 w4
 have k2:IntKind.i64.min= -9223372036854775808:=rfl
 have k3:IntKind.i64.max=9223372036854775807:=rfl
 refine ⟨⟨s0.data.toList,i1,i2,i3,i4⟩,rfl,⟨⟨?_,?_,?_,?_,?_,?_,?_,?_,?_⟩,?_⟩⟩
 ·show s0.data.toList.length≤_;omega
 ·show _≤i1;omega
 ·show i1≤_;omega
 ·show _≤i2;omega
 ·show i2≤_;omega
 ·show _≤i3;omega
 ·show i3≤_;omega
 ·show _≤i4;omega
 ·show i4≤_;omega
 ·show s0.data.toList.length≤_;omega
theorem Xed {H:Type} {enc:TypeId × Value→H} {C:Checked} {os:Os} {f:FuncId} {fn:Func} {s:OpenSpec} {conds:List PathCond} {apart:Bool} {laid:List (String × DataW Unit)} (modest:Bool) (w0:World) (args:Array Value) (hos:w0.os=os)
 (hsh:(w0.forCall (fun _ _=>0) ⟨#[],args,[]⟩).Shaped C.prog)
 (hok:Input.okWideB C.prog (w0.forCall (fun _ _=>0) ⟨#[],args,[]⟩) f ⟨#[],args,[]⟩=true)
 (hrow:s.preRow enc C.prog fn conds apart laid (w0.forCall (fun _ _=>0) ⟨#[],args,[]⟩).memory args):
 ∃(w:World) (tape:Tape) (i:Input),w.os=os∧(w.forCall tape i).Shaped C.prog∧i.vars= []∧Input.okWide C.prog (w.forCall tape i) .any w.heap.size f i∧
  s.preRow enc C.prog fn conds apart laid (w.forCall tape i).memory i.args∧({ modest:=modest }:Assume).holds C.prog (lone (Frame.enter C.prog f i.args .normal) [] (w.forCall tape i)):=
 ⟨w0,fun _ _=>0,⟨#[],args,[]⟩,hos,hsh,(Input.okWide_of_okWideB (base:=0) hok).1,(Input.okWide_of_okWideB hok).2,hrow,by
   simp only [Assume.holds]
   exact ⟨by simp,by simp,fun _=>Modest.zero,by simp,by simp⟩⟩
theorem Xic:∀ {l:List At},(∀x∈l,x.N)→(l.map fun a=>10+a.k.length+a.v.length).sum≤l.length*2097162
 | [],_=>by simp
 |x::l,h=>by
  have:=Xic (l:=l) (fun y hy=>h y (List.mem_cons_of_mem _ hy))
  obtain ⟨h1,h2⟩:=h x (List.mem_cons_self ..)
  rw [List.map_cons,List.sum_cons,List.length_cons,Nat.add_mul]
  omega
theorem Xno {r:Rqs} (h:r.N):weightR r≤2200000000000:=by
 have:=Xic h.c.attrs
 have h1:=h.own;have h2:=h.c.path;have h3:=h.c.target;have h4:=h.c.content;have h5:=h.c.nattrs
 have h6:=Nat.mul_le_mul_right 2097162 h5
 unfold weightR
 omega
theorem Xk0:∀ {rs:List Rqs},(∀r∈rs,r.N)→rs.length≤1048576→weightP rs≤4611686018427387904:=by
 have key:∀ {rs:List Rqs},(∀r∈rs,r.N)→weightP rs≤rs.length*2200000000000:=by
  intro rs
  induction rs with
  |nil=>intro _;simp [weightP]
  |cons r rs ih=>
   intro h
   have:=ih (fun y hy=>h y (List.mem_cons_of_mem _ hy))
   have hr:=Xno (h r (List.mem_cons_self ..))
   have e:weightP (r::rs)=weightR r+weightP rs:=by simp [weightP]
   rw [e,List.length_cons,Nat.add_mul]
   omega
 intro rs h hl
 have:=key h
 have h2:=Nat.mul_le_mul_right 2200000000000 hl
 omega
end Go.Proofs.YtmdfjnhfhidmhaaGreatDoor
