/-
  Walks and laws that the claim's theorem uses: texts SoB RfG AlP SnW SoG, joined; comments out. Conditions: as each theorem says.
-/
import Derived.Test.YtjdednajelommaaGreatDoorQ35
set_option linter.unusedSimpArgs false
set_option linter.unusedVariables false
namespace Go.Proofs.YtjdednajelommaaGreatDoor
open Go.RowKit
def RetWr (I:IH) (w:World) (ai dt sp:Int) (p:List Ses × Nat × Int) (e:Ending) (w':World):Prop:=
 ∃vs J,e= .returned (.tuple #[arcV ai dt sp vs,.int .i64 p.2.1,.int .i64 p.2.2])∧Below w.heap.size w w'∧Ext w.heap.size I J∧Ok J w'∧RdS tSes J vs p.1
theorem Xl6 {d0 d:Drf} {l:List Chg} {k:Nat} (hk:k<l.length) {c:Chg} (hc:l[k]=c) (h:addsP d0 0 l=addsP d k (l.drop k)):
 ((addP d c).2≠0→addsP d0 0 l=(d,k,(addP d c).2))∧((addP d c).2=0→addsP d0 0 l=addsP (addP d c).1 (k+1) (l.drop (k+1))):=by
 rw [List.drop_eq_getElem_cons hk,hc,addsP] at h
 exact ⟨fun h0=>by rw [h,if_pos h0],fun h0=>by rw [h,if_neg (by rw [h0];simp)]⟩
theorem Xoq {d0 d:Drf} {l:List Chg} (h:addsP d0 0 l=addsP d l.length (l.drop l.length)):addsP d0 0 l=(d,l.length,0):=by
 rw [List.drop_length] at h
 exact h
theorem Xp0 {L:List Ses} {date:Int} (l:List Chg) (h:begErr L date≠0):wrtP L date l=(L,0,begErr L date):=by unfold wrtP;rw [if_pos h]
theorem Xp1 {L:List Ses} {date:Int} {l:List Chg} {d:Drf} {k:Nat} {r:Int} (h:begErr L date=0) (h0:r≠0) (ha:addsP (openP L date) 0 l=(d,k,r)):wrtP L date l=(L,k,r):=by
 unfold wrtP
 rw [if_neg (by rw [h];simp),ha,if_pos h0]
theorem Xuq {L:List Ses} {date:Int} {l:List Chg} {d:Drf} (h:begErr L date=0) (ha:addsP (openP L date) 0 l=(d,l.length,0)):wrtP L date l=(L++ [closeP d],l.length,0):=by
 unfold wrtP
 rw [if_neg (by rw [h];simp),ha,if_neg (by simp)]
theorem Xu1 {L:List Ses} {date:Int} {l:List Chg} {d:Drf} {n m:Nat} (hA:ArcOk n m L) (hn:n+l.length≤60000) (hm:m≤250) (hc:∀c∈l,c.content.length≤1000) (h:begErr L date=0) (ha:addsP (openP L date) 0 l=(d,l.length,0)):
 appP L (closeP d)=(L++ [closeP d],0):=by
 have h1:=Xgl (L:=L) (l:=l) (n:=n) (d:=openP L date) 0 (Xg9 hA (by omega) (by omega) h) hn (Xjh L h) hc
 rw [ha] at h1
 have hl:=hA.len
 unfold appP
 rw [Xuy (by omega) h1.2.1]
 rfl
theorem Xnd {L:List Ses} {date:Int} (h:begErr L date=0):begP L date=(openP L date,0):=by unfold begP;rw [if_neg (by rw [h];simp)]
theorem Xol {L:List Ses} {date:Int} (h:begErr L date≠0):begP L date=(nilD,begErr L date):=by unfold begP;rw [if_pos h]
theorem ArM.wr {I:IH} {w0:World} {ai dt sp:Int} {vs:Value} {zr:Array Value} {ty:TypeId} {J J':IH} {W W':World} {B:Nat} (h:ArM I w0 ai dt sp vs (w0.heap.size+1) zr ty J W) (hb:Below B W W') (hB:w0.heap.size+1<B) (hB2:B≤W.heap.size) (hx:Ext W.heap.size J J') (hok:Ok J' W'):
 ArM I w0 ai dt sp vs (w0.heap.size+1) zr ty J' W':=
 ⟨⟨hok,fun b c hc=>hx.keep h.at_.ok (Qn _) b c (h.at_.keep b c hc),h.at_.bel.trans (hb.mono (by omega))⟩,h.ext.trans hx h.at_.size,(hx _ (by omega)).trans h.no1,
   (hb.cell (by show w0.heap.size<B;omega)).trans h.a0,(hb.cell (by show w0.heap.size<B;omega)).trans h.a1,(hb.cell (by show w0.heap.size<B;omega)).trans h.a2,(hb.cell (by show w0.heap.size<B;omega)).trans h.a3,
   (hb.block _ hB).trans h.out⟩
abbrev wrL (B:Nat) (ai dt sp:Int) (so:Option Addr) (sc:Nat) (L L2:List Ses) (d:Drf) (ve vk vt vh:Value) (x:(Option Addr × Nat) × (Option Addr × Nat) × Nat):List (Option Tmp × Value):=
 [(some 49,arcV ai dt sp (.slice so L.length sc)),(some 50,.func (.func 88) #[] #[.pointer (some ⟨B,0,none⟩)]),(some 51,drV d ve vk vt vh),(some 52,sesV (closeP d) (.slice x.1.1 (closeP d).ents.length x.1.2)),(some 53,.tuple #[arcV ai dt sp (.slice x.2.1.1 L2.length x.2.1.2),.int .i64 0]),(some 48,.tuple #[arcV ai dt sp (.slice x.2.1.1 L2.length x.2.1.2),.int .i64 0]),(some 54,arcV ai dt sp (.slice x.2.1.1 L2.length x.2.1.2)),(some 55,.int .i64 0),(some 16,.pointer (some ⟨x.2.2,0,none⟩)),(none,undef),(some 10,.int .i64 0)]
theorem Xb2 {B:Nat} {ai dt sp:Int} {so:Option Addr} {sc:Nat} {L L2:List Ses} {d:Drf} {ve vk vt vh:Value} {x:(Option Addr × Nat) × (Option Addr × Nat) × Nat}:ApartF (wrL B ai dt sp so sc L L2 d ve vk vt vh x):=by
 unfold ApartF
 simp
set_option maxRecDepth 100000 in
set_option maxHeartbeats 8000000 in
theorem Xge (I:IH) (hI:Glob I) (ai dt sp:Int) {n m:Nat} (L:List Ses) (h:ArcOk n m L) (l:List Chg) (hn:n+l.length≤150) (hm:m≤250) (vs:Value) (hvs:RdS tSes I vs L) (date:Int) (vc:Value) (hvc:RdS tChg I vc l) (hc:∀c∈l,c.Wf∧c.attrs.length≤1000000∧c.content.length≤1000) (w:World) (hw:Ok I w):
 Calls Tryz.prog 14 #[arcV ai dt sp vs,.int .i64 date,vc] w (RetWr I w ai dt sp (wrtP L date l)):=by
 have hlen:=h.len
 have HA:=Qh h
 have HG:=Qh hI
 have Hvs:=Qh hvs
 have Hvc:=Qh hvc
 have Hc:=Qh hc
 have hcl:=hvc.len_le
 have Hbg:=Qh (fun w hw=>Xi7 I hI ai dt sp L h (by omega) hm vs hvs date w hw)
 have Hi4:=Qh (show (Tryz.prog.info? 30).map (·.size)=some 4 by kernel_rfl)
 obtain ⟨so,sc,rfl,_,_,_⟩:=id hvs
 obtain ⟨co,cc,rfl,_,_,_⟩:=id hvc
 have M:=Qh (Xl3 hw ai dt sp (.slice so L.length sc) zeroA 30)
 clear h hI hvs hvc hc
 obtain ⟨W2,hW2⟩:∃W2,((w.alloc (.cells #[.int .u32 ai,.int .i64 dt,.int .i64 sp,.slice so L.length sc] 30)).alloc (.cells zeroA 30))=W2:=⟨_,rfl⟩
 rw [hW2] at M
 obtain ⟨z0,z1,z2,z3⟩:=(⟨M.out.a0,M.out.a1,M.out.a2,M.out.a3⟩:_∧_∧_∧_)
 go_enter Tryz.func14,Tryz.ntmps14
 go_wp2_with fail
 clear hW2
 refine (Hbg.out W2 M.out.at_.ok).mono ?_
 rintro e1 w1 ⟨ve,vk,vt,vh,J1,rfl,hb1,hx1,hok1,hrd⟩
 obtain ⟨ae,ce,rfl,_,_,_⟩:=id hrd.ents
 obtain ⟨ak,ck,rfl,_,_,_⟩:=id hrd.cks
 obtain ⟨at',ct,rfl,_,_,_⟩:=id hrd.tree
 obtain ⟨ah,ch,rfl,_,_,_⟩:=id hrd.holds
 have M1:=Qh (M.out.thru hb1 hx1 hok1)
 have Hrd:=Qh hrd
 obtain ⟨dB,eB,hdB⟩:∃dB eB,begP L date=(dB,eB):=⟨_,_,rfl⟩
 rw [hdB] at Hrd ⊢
 dsimp only at Hrd ⊢
 have hJ7:J1 w1.heap.size=none:=hok1.fresh (Qn _)
 have hm1:=M1.out.lt
 have Hdb:=Qh hdB
 clear hrd hb1 hx1 hok1 M z0 z1 z2 z3 Hbg hdB
 go_upto_region 2 with (
                        refine Xab rfl rfl 46 _ _ rfl w1.heap.size 0 (drCs dB (.slice ae dB.ents.length ce) (.slice ak dB.sto.cks.length ck) (.slice at' dB.tree.length ct) (.slice ah dB.holds.length ch)) (drV dB (.slice ae dB.ents.length ce) (.slice ak dB.sto.cks.length ck) (.slice at' dB.tree.length ct) (.slice ah dB.holds.length ch)) (by simp [Act.eval]) (by simp [Act.eval]) (by rfl) zeroD 46 (heap_alloc_new _ _) (by simp) (by kernel_rfl) (by simp [Value.oneCell']) (drCs dB (.slice ae dB.ents.length ce) (.slice ak dB.sto.cks.length ck) (.slice at' dB.tree.length ct) (.slice ah dB.holds.length ch)).toArray (by rfl) ?_
                        intro w2 hg2 hr2)
 have hb2:Below w1.heap.size w1 w2:=((Qb _ _).alloc (Qn _) _).grown hg2 (by simp) (fun k e=>by injection e with e;omega)
 have M2:=Qh (M1.out.quiet hb2)
 have hs2:=(Array.getElem?_eq_some_iff.1 hr2).1
 by_cases q:begErr L date=0
 case neg=>
  obtain ⟨rfl,rfl⟩:=Prod.mk.inj (Hdb.out.symm.trans (Xol q))
  have Hn:=Qh (Xp0 l q)
  have i1:(begErr L date != 0)=true:=by simpa using q
  have i1b:(begErr L date==0)=false:=by simpa using q
  have i1c:decide (begErr L date=0)=false:=Qf q
  clear q hr2 hg2 hb2 M1 Hrd Hdb
  obtain ⟨z0,z1,z2,z3⟩:=(⟨M2.out.a0,M2.out.a1,M2.out.a2,M2.out.a3⟩:_∧_∧_∧_)
  have hout:=M2.out.out
  go_wp2_with (refine Xab rfl rfl 30 _ _ rfl (w.heap.size+1) 0 [.int .u32 ai,.int .i64 dt,.int .i64 sp,.slice so L.length sc] (arcV ai dt sp (.slice so L.length sc)) (by simp [Act.eval]) (by simp [Act.eval]) (by rfl) zeroA 30 hout (by simp) (by kernel_rfl) (by simp [Value.oneCell']) #[.int .u32 ai,.int .i64 dt,.int .i64 sp,.slice so L.length sc] (by rfl) ?_
               intro w9 hg9 hr9)
  refine bodyPost_ret (v:= .tuple #[arcV ai dt sp (.slice so L.length sc),.int .i64 0,.int .i64 (begErr L date)]) ?_ rfl ?_
  ·rw [Xa6 rfl]
   simp [asAddr,run_loadVar_row w9 (w.heap.size+1) 30 30 _ (0,0) _ hr9 Tryz.underlying30 rfl Hi4.out]
  ·rw [Hn.out]
   exact ⟨_,_,rfl,M2.out.at_.bel.grown hg9 M2.out.at_.size (fun k e=>by injection e with e;omega),M2.out.ext,M2.out.at_.ok.grown hg9 (fun g e=>by injection e with e;subst e;exact M2.out.no1),Hvs.out.mono M2.out.at_.keep⟩
 case pos=>
  obtain ⟨e1,rfl⟩:=Prod.mk.inj (Hdb.out.symm.trans (Xnd q))
  have He:=Qh e1
  have Hq:=Qh q
  obtain ⟨b0,b1,b2,b3,b4,b5,b6,b7,b8⟩:=drB_row (d:=dB) hr2
  clear q e1 hg2 hb2 M1 Hdb
  go_wp2_with fail
  refine (Xqd dB _ _ _ _ w2).mono ?_
  rintro e3 w3 ⟨rfl,hw3⟩
  have hb3:Below w2.heap.size w2 w3:=by rw [hw3];exact (Qb _ _).alloc (Qn _) _
  have M3:=Qh (M2.out.quiet hb3)
  have WR3:=Qh (show WrB J1 w3 w2.heap.size dB _ _ _ _ from ⟨M3.out.at_.ok,M2.out.at_.ok.fresh (Qn _),Hrd.out,by rw [hw3];exact heap_alloc_new _ _⟩)
  have HdO:=Qh (show DrOk (n+0) dB by rw [He.out];exact Xg9 HA.out (by omega) (by omega) Hq.out)
  have hBl:w.heap.size+1<w2.heap.size:=by omega
  have Had:=Qh (show addsP dB 0 l=addsP dB 0 (l.drop 0) from rfl)
  clear b0 b1 b2 b3 b4 b5 b6 b7 b8 hr2 hb3 hw3 M2 Hrd hJ7
  generalize w2.heap.size=B at WR3 hBl ⊢
  go_wp2_with fail
  go_loopw [13,14,15,34] (fun _ _ _ s34 wr=> ∃(k:Nat) (J:IH) (d:Drf) (ve vk vt vh:Value),k≤l.length∧s34= .int .i64 k∧ArM I w ai dt sp (.slice so L.length sc) (w.heap.size+1) zeroA 30 J wr∧WrB J wr B d ve vk vt vh∧DrOk (n+k) d∧addsP dB 0 l=addsP d k (l.drop k)) (fun _ _ _ i _=>l.length-(intOf i).toNat)
  case atStart=>exact ⟨0,J1,dB,_,_,_,_,Nat.zero_le _,rfl,M3.out,WR3.out,HdO.out,Had.out⟩
  case round=>
   clear M3 WR3 HdO Had
   obtain ⟨k,J,d,ve,vk,vt,vh,hk,rfl,hM,hWR,hdO,had⟩:=hrel
   have M:=Qh hM
   have WR:=Qh hWR
   have HdO:=Qh hdO
   have Had:=Qh had
   clear hM hWR hdO had
   by_cases hlt:k<l.length
   ·obtain ⟨c,va,b,off,cap',hlc,hvv,⟨c0,c1,c2,c3,c4⟩,hva⟩:=Xsa (Hvc.out.mono M.out.at_.keep) M.out.at_.ok k hlt
    cases hvv
    have hcm:=Hc.out c (by rw [←hlc];exact List.getElem_mem hlt)
    have Hst:=Xl6 hlt hlc Had.out
    have hdo:=Xsl HdO.out (by omega) (show c.content.length≤65536 by omega)
    have Hw1:=(fun W (hW:WrB J W B d ve vk vt vh)=>Xoy J (HG.out.mono M.out.at_.keep) d HdO.out (by omega) ve vk vt vh c hcm.1 hcm.2.1 _ hva B W hW)
    obtain ⟨dn,rn,hdn⟩:∃dn rn,addP d c=(dn,rn):=⟨_,_,rfl⟩
    rw [hdn] at Hst hdo Hw1
    dsimp only at Hst hdo Hw1
    replace Hst:=Qh Hst
    replace hdo:=Qh (show DrOk (n+(k+1)) dn from hdo)
    replace Hw1:=Qh Hw1
    obtain ⟨oa,ca,rfl,_,_,_⟩:=id hva
    have Ma:=Qh (M.out.quiet ((Qb _ _).alloc (Qn _) (.cells #[.int .i64 c.kind,S c.path,.slice oa c.attrs.length ca,S c.target,S c.content] 53)))
    have WRa:=Qh (WR.out.below ((Qb _ _).alloc (Qn _) (.cells #[.int .i64 c.kind,S c.path,.slice oa c.attrs.length ca,S c.target,S c.content] 53)))
    clear hcm hlc hva hdn M WR Had HdO
    go_wp2_with fail
    refine (Hw1.out _ WRa.out).mono ?_
    rintro e5 w5 ⟨rfl,ve',vk',vt',vh',J5,hx5,hWR5,hb5⟩
    have M5:=Qh (Ma.out.wr hb5 hBl (by have:=WRa.out.lt;omega) hx5 hWR5.ok)
    have WR5:=Qh hWR5
    clear hx5 hWR5 hb5 Ma WRa Hw1 c0 c1 c2 c3 c4
    by_cases h0:rn=0
    ·have Had5:=Qh (Hst.out.2 h0)
     subst h0
     clear Hst
     go_wp2_with fail
     go_roundw
     case rel=>exact ⟨k+1,J5,dn,_,_,_,_,by omega,by go_num,M5.out,WR5.out,hdo.out,Had5.out⟩
     case measure=>simp [intOf];omega
    ·have Hn:=Qh (Xp1 Hq.out h0 (by rw [←He.out];exact Hst.out.1 h0):wrtP L date l=(L,k,rn))
     have i1:(rn != 0)=true:=by simpa using h0
     have i1b:(rn==0)=false:=by simpa using h0
     have i1c:decide (rn=0)=false:=Qf h0
     clear h0 Hst
     obtain ⟨z0,z1,z2,z3⟩:=(⟨M5.out.a0,M5.out.a1,M5.out.a2,M5.out.a3⟩:_∧_∧_∧_)
     have hout:=M5.out.out
     go_wp2_with (refine Xab rfl rfl 30 _ _ rfl (w.heap.size+1) 0 [.int .u32 ai,.int .i64 dt,.int .i64 sp,.slice so L.length sc] (arcV ai dt sp (.slice so L.length sc)) (by simp [Act.eval]) (by simp [Act.eval]) (by rfl) zeroA 30 hout (by simp) (by kernel_rfl) (by simp [Value.oneCell']) #[.int .u32 ai,.int .i64 dt,.int .i64 sp,.slice so L.length sc] (by rfl) ?_
                  intro w9 hg9 hr9)
     refine bodyPost_ret (v:= .tuple #[arcV ai dt sp (.slice so L.length sc),.int .i64 (k:Int),.int .i64 rn]) ?_ rfl ?_
     ·rw [Xa6 rfl]
      simp [asAddr,run_loadVar_row w9 (w.heap.size+1) 30 30 _ (0,0) _ hr9 Tryz.underlying30 rfl Hi4.out]
     ·rw [Hn.out]
      exact ⟨_,_,rfl,M5.out.at_.bel.grown hg9 M5.out.at_.size (fun k e=>by injection e with e;omega),M5.out.ext,M5.out.at_.ok.grown hg9 (fun g e=>by injection e with e;subst e;exact M5.out.no1),Hvs.out.mono M5.out.at_.keep⟩
   ·have hke:k=l.length:=by omega
    subst hke
    have Had5:=Qh (Xoq Had.out)
    have Happ:=Qh (Xu1 HA.out (by omega) hm (fun c hc=>(Hc.out c hc).2.2) Hq.out (by rw [←He.out];exact Had5.out))
    have Hn:=Qh (Xuq Hq.out (by rw [←He.out];exact Had5.out):wrtP L date l=(L++ [closeP d],l.length,0))
    have Hap:=Qh (fun J6 (hk6:∀b c,J b=some c→J6 b=some c) ve6 (hr6:RdS tEnt J6 ve6 (closeP d).ents) w' hok6=>by
     have h9:=Xdr J6 (HG.out.mono (fun b c hb=>hk6 b c (M.out.at_.keep b c hb))) ai dt sp L HA.out (by omega) hm _ (Hvs.out.mono (fun b c hb=>hk6 b c (M.out.at_.keep b c hb))) (closeP d) ve6 hr6 w' hok6
     rw [Happ.out] at h9
     exact h9)
    obtain ⟨L2,hL2⟩:∃L2,L++ [closeP d]=L2:=⟨_,rfl⟩
    dsimp only at Hap
    rw [hL2] at Hap Hn
    clear hL2 Happ
    have hel:=HdO.out.ents
    obtain ⟨ae,ce,rfl,_,_,_⟩:=id WR.out.rd.ents
    obtain ⟨ak,ck,rfl,_,_,_⟩:=id WR.out.rd.cks
    obtain ⟨at',ct,rfl,_,_,_⟩:=id WR.out.rd.tree
    obtain ⟨ah,ch,rfl,_,_,_⟩:=id WR.out.rd.holds
    obtain ⟨z0,z1,z2,z3⟩:=(⟨M.out.a0,M.out.a1,M.out.a2,M.out.a3⟩:_∧_∧_∧_)
    clear Had HdO Had5
    go_wp2_with fail
    refine Xah (X:=(Option Addr × Nat) × (Option Addr × Nat) × Nat) (wrL B ai dt sp so sc L L2 d (.slice ae d.ents.length ce) (.slice ak d.sto.cks.length ck) (.slice at' d.tree.length ct) (.slice ah d.holds.length ch)) (RgE wr 3 232 4 233 8 234 225 235 (fun x w=>x.2.2<w.heap.size∧J x.2.2=none) (fun x w=> ∃J',Ext wr.heap.size J J'∧Ok J' w∧RdS tEnt J' (.slice x.1.1 (closeP d).ents.length x.1.2) (closeP d).ents∧J' x.2.2=none) (fun x w=> ∃J',Ext wr.heap.size J J'∧Ok J' w∧RdS tSes J' (.slice x.2.1.1 L2.length x.2.1.2) L2∧J' x.2.2=none) (fun x w=>w.heap[x.2.2]? =some (.cells zeroA 30 (0,0))∧wr.heap.size≤x.2.2) (fun _ _=>True) (fun x w=>(∃J',Ext wr.heap.size J J'∧Ok J' w∧RdS tSes J' (.slice x.2.1.1 L2.length x.2.1.2) L2∧J' x.2.2=none)∧(w.heap[x.2.2]? =some (.cells zeroA 30 (0,0))∧wr.heap.size≤x.2.2)) (fun x=>x.2.2) 30 9 212 213 (fun x=> #[.int .u32 ai,.int .i64 dt,.int .i64 sp,.slice x.2.1.1 L2.length x.2.1.2]) (fun x=> #[.int .u32 ai,.int .i64 dt,.int .i64 sp,.slice x.2.1.1 L2.length x.2.1.2]) (fun x=> #[.int .u32 ai,.int .i64 dt,.int .i64 sp,.slice x.2.1.1 L2.length x.2.1.2])) (by kernel_rfl) (by kernel_rfl) ?_ ?_ ?_
    ·exact ⟨(default,default,w.heap.size+1),RgE.start _ _ ⟨M.out.lt,M.out.no1⟩⟩
    ·rintro x s' a' w' i hsz hcl ha hC hi
     obtain ⟨hun,oi,hoi,hall⟩:=mem_ready.1 hi
     have ev:=Xcv Xb2 ha
     have hlt:=Xcy hun
     rcases i with _|_|_|_|_|_|_|_|_|_|_|i
     rotate_left 11
     ·simp at hoi
     all_goals
      have hoj:=hoi
      simp at hoi
      subst hoi
      simp [Region.binds] at hall
      try have hl:=Xas 6 9 hcl (by decide +kernel) hun
      try have hbw:=hC.off hl
      try have z0:=Xaa hbw z0
      try have z1:=Xaa hbw z1
      try have z2:=Xaa hbw z2
      try have z3:=Xaa hbw z3
      refine wpOp_step hoj (fun K' hK=> ?_)
      rw [if_pos (by rfl)]
     rotate_left 2
     ·unfold Oper.wp
      simp [go_sem,ev,evF,hall,Oper.upon]
      refine (Xox J d _ _ _ _ B w' (WR.out.below hbw)).mono ?_
      rintro r4 w4 ⟨rfl,hb4⟩
      exact hK _ _ ⟨x,Xan Xb2 ha rfl hun,hC.step hl (hbw.trans (hb4.mono hbw.size)) (by decide) (fun h=>⟨Nat.lt_of_lt_of_le h.1 hb4.size,h.2⟩) (fun h _=>h.elim (fun e=>absurd e (by decide)) (fun ⟨_,_,q⟩=>(q.elim fun J9 h9=>⟨J9,h9.1,h9.2.1.below (Qn _) hb4,h9.2.2⟩))) (fun h _=>h.elim (fun e=>absurd e (by decide)) (fun ⟨_,_,q⟩=>(q.elim fun J9 h9=>⟨J9,h9.1,h9.2.1.below (Qn _) hb4,h9.2.2⟩))) (fun h _=>h.elim (fun e=>absurd e (by decide)) (fun ⟨_,_,q⟩=>⟨(hb4.block _ (Array.getElem?_eq_some_iff.1 q.1).1).trans q.1,q.2⟩)) (fun _ _=>trivial) hlt⟩
     ·unfold Oper.wp
      simp [go_sem,ev,evF,hall,Oper.upon]
      refine (Xi6 J d (by omega) _ _ _ _ WR.out.rd.ents w' (M.out.at_.ok.below (Qn _) hbw)).mono ?_
      rintro r4 w4 ⟨v7,J7,rfl,hb4,hx7,hok7,hr7⟩
      obtain ⟨a7,k7,rfl,_,_,_⟩:=id hr7
      have ha:=ha.trans (Xav (L:=wrL B ai dt sp so sc L L2 d (.slice ae d.ents.length ce) (.slice ak d.sto.cks.length ck) (.slice at' d.tree.length ct) (.slice ah d.holds.length ch) x) (M:=wrL B ai dt sp so sc L L2 d (.slice ae d.ents.length ce) (.slice ak d.sto.cks.length ck) (.slice at' d.tree.length ct) (.slice ah d.holds.length ch) ((a7,k7),x.2)) [3] rfl (fun j hne=>by
       rcases j with _|_|_|_|_|_|_|_|_|_|_|j<;>first|rfl|(exact absurd (by decide) hne)|simp) (List.forall_mem_cons.2 ⟨Xao hun,List.forall_mem_nil _⟩))
      exact hK _ _ ⟨((a7,k7),x.2),Xan Xb2 ha rfl hun,hC.step hl (hbw.trans (hb4.mono hbw.size)) (by decide) (fun h=>⟨Nat.lt_of_lt_of_le h.1 hb4.size,h.2⟩) (fun _ _=>⟨J7,fun b hb=>hx7 b (Nat.lt_of_lt_of_le hb hbw.size),hok7,hr7,(hx7 _ (hC.inv hl).1).trans (hC.inv hl).2⟩) (fun h _=>h.elim (fun e=>absurd e (by decide)) (fun ⟨_,_,q⟩=>(q.elim fun J9 h9=>⟨J9,h9.1,h9.2.1.below (Qn _) hb4,h9.2.2⟩))) (fun h _=>h.elim (fun e=>absurd e (by decide)) (fun ⟨_,_,q⟩=>⟨(hb4.block _ (Array.getElem?_eq_some_iff.1 q.1).1).trans q.1,q.2⟩)) (fun _ _=>trivial) hlt⟩
     ·obtain ⟨J6,hx6,hok6,hr6,hn6⟩:=hC.f1 (by first|simpa using hall|simp [hall]) (Xak (by simp [hsz])) hl
      unfold Oper.wp
      simp [go_sem,ev,evF,hall,Oper.upon]
      refine (Hap.out J6 (fun b c hb=>hx6.keep M.out.at_.ok (Qn _) b c hb) _ hr6 w' hok6).mono ?_
      rintro r4 w4 ⟨v7,J7,rfl,hb4,hx7,hok7,hr7⟩
      obtain ⟨a7,k7,rfl,_,_,_⟩:=id hr7
      have ha:=ha.trans (Xav (L:=wrL B ai dt sp so sc L L2 d (.slice ae d.ents.length ce) (.slice ak d.sto.cks.length ck) (.slice at' d.tree.length ct) (.slice ah d.holds.length ch) x) (M:=wrL B ai dt sp so sc L L2 d (.slice ae d.ents.length ce) (.slice ak d.sto.cks.length ck) (.slice at' d.tree.length ct) (.slice ah d.holds.length ch) (x.1,(a7,k7),x.2.2)) [4,5,6,9] rfl (fun j hne=>by
       rcases j with _|_|_|_|_|_|_|_|_|_|_|j<;>first|rfl|(exact absurd (by decide) hne)|simp) (List.forall_mem_cons.2 ⟨Xao hun,List.forall_mem_cons.2 ⟨Xas 6 5 hcl (by kernel_rfl) hun,List.forall_mem_cons.2 ⟨Xas 6 6 hcl (by kernel_rfl) hun,List.forall_mem_cons.2 ⟨Xas 6 9 hcl (by kernel_rfl) hun,List.forall_mem_nil _⟩⟩⟩⟩))
      exact hK _ _ ⟨(x.1,(a7,k7),x.2.2),Xan Xb2 ha rfl hun,hC.step hl (hbw.trans (hb4.mono hbw.size)) (by decide) (fun h=>⟨Nat.lt_of_lt_of_le h.1 hb4.size,h.2⟩) (fun h _=>h.elim (fun e=>absurd e (by decide)) (fun ⟨_,_,q⟩=>(q.elim fun J9 h9=>⟨J9,h9.1,h9.2.1.below (Qn _) hb4,h9.2.2⟩))) (fun _ _=>⟨J7,fun b hb=>(hx7 b (Nat.lt_of_lt_of_le hb hbw.size)).trans (hx6 b hb),hok7,hr7,(hx7 _ (hC.inv hl).1).trans hn6⟩) (fun h _=>h.elim (fun e=>absurd e (by decide)) (fun ⟨_,_,q⟩=>⟨(hb4.block _ (Array.getElem?_eq_some_iff.1 q.1).1).trans q.1,q.2⟩)) (fun _ _=>trivial) hlt⟩
     rotate_left 3
     ·unfold Oper.wp
      simp [go_sem,ev,evF,hall,Oper.upon,z0,z1,z2,z3]
      have ha:=ha.trans (Xav (L:=wrL B ai dt sp so sc L L2 d (.slice ae d.ents.length ce) (.slice ak d.sto.cks.length ck) (.slice at' d.tree.length ct) (.slice ah d.holds.length ch) x) (M:=wrL B ai dt sp so sc L L2 d (.slice ae d.ents.length ce) (.slice ak d.sto.cks.length ck) (.slice at' d.tree.length ct) (.slice ah d.holds.length ch) (x.1,x.2.1,w'.heap.size)) [8] rfl (fun j hne=>by
       rcases j with _|_|_|_|_|_|_|_|_|_|_|j<;>first|rfl|(exact absurd (by decide) hne)|simp) (List.forall_mem_cons.2 ⟨Xao hun,List.forall_mem_nil _⟩))
      exact hK _ _ ⟨(x.1,x.2.1,w'.heap.size),Xan Xb2 ha rfl hun,hC.step hl (hbw.trans (((Qb _ _).alloc (Qn _) _).mono hbw.size)) (by decide) (fun _=>⟨by simp,M.out.at_.ok.fresh hbw.size⟩) (fun h _=>h.elim (fun e=>absurd e (by decide)) (fun ⟨_,_,q⟩=>(q.elim fun J9 h9=>⟨J9,h9.1,h9.2.1.below (Qn _) ((Qb w'.heap.size w').alloc (Qn _) (.cells zeroA 30)),h9.2.2.1,h9.2.1.fresh (Qn _)⟩))) (fun h _=>h.elim (fun e=>absurd e (by decide)) (fun ⟨_,_,q⟩=>(q.elim fun J9 h9=>⟨J9,h9.1,h9.2.1.below (Qn _) ((Qb w'.heap.size w').alloc (Qn _) (.cells zeroA 30)),h9.2.2.1,h9.2.1.fresh (Qn _)⟩))) (fun _ _=>⟨heap_alloc_new _ _,hbw.size⟩) (fun _ _=>trivial) hlt⟩
     ·have hrow:w'.heap[x.2.2]? =some (.cells _ 30 (0,0)):=(hC.f3 (by first|simpa using hall|simp [hall]) (Xak (by simp [hsz])) hl).1
      refine Xaj 30 _ _ rfl (x.2.2) 0 [.int .u32 ai,.int .i64 dt,.int .i64 sp,.slice x.2.1.1 L2.length x.2.1.2] (arcV ai dt sp (.slice x.2.1.1 L2.length x.2.1.2)) (by simp [Act.eval,ev,evF,hall]) (by simp [Act.eval,ev,evF,hall]) (by rfl) _ _ hrow (by simp) (by kernel_rfl) (by simp [Value.oneCell']) ?_
      exact hK _ _ ⟨x,Xad (d:=none) (v:=undef) Xb2 ha rfl hun,hC.put1 hun ⟨hC.f2 (by first|simpa using hall|simp [hall]) (Xak (by simp [hsz])) hl,hC.f3 (by first|simpa using hall|simp [hall]) (Xak (by simp [hsz])) hl⟩ (Xak (by simp [hsz])) (Xak (by simp [hsz])) (by decide) hrow (by rfl)⟩
     all_goals
      unfold Oper.wp
      first
      |(simp [go_sem,ev,evF,hall,Oper.upon,z0,z1,z2,z3];exact hK _ _ ⟨x,Xan Xb2 ha rfl hun,hC.pure (by decide)⟩)
      |(simp [go_sem,ev,evF,Oper.upon,z0,z1,z2,z3];exact hK _ _ ⟨x,Xan Xb2 ha rfl hun,hC.pure (by decide)⟩)
    ·rintro x s' a' w6 hup ha hC
     obtain ⟨wb,hbW,hFin,hgr,hrow⟩:=hC.on (hup 9 (by decide))
     simp only [ite_self] at hrow
     rw [Xa1 _ _ _ _ (fun i hi=>by rw [Nat.zero_add];exact hup i (by simpa using hi))] at ha
     subst ha
     simp only [fillAll,Act.put,List.setIfInBounds_toArray,List.set_cons_succ,List.set_cons_zero]
     obtain ⟨⟨ac1,kc1⟩,⟨as1,ks⟩,bx⟩:=x
     dsimp only at hFin hgr hrow ⊢
     obtain ⟨⟨J9,hx9,hok9,hr9,hn9⟩,hbox,hbl⟩:=hFin
     have hsz:=M.out.at_.size
     have hlt1:=M.out.lt
     have hsW:=hbW.size
     have hsg:=hgr.size
     have hout:=(hgr.block _ (by omega:w.heap.size+1<wb.heap.size) (fun e=>by injection e with e;omega)).trans ((hbW.block _ M.out.lt).trans M.out.out)
     obtain ⟨y0,y1,y2,y3⟩:=Xag hrow
     have Hb6:=Qh (show Below w.heap.size w w6 from (M.out.at_.bel.trans (hbW.mono hsz)).grown hgr (by omega) (fun k e=>by injection e with e;omega))
     have Hok6:=Qh (hok9.grown hgr (fun g e=>by injection e with e;subst e;exact hn9))
     have Hr9:=Qh hr9
     have Hx9:=Qh (M.out.ext.trans hx9 hsz)
     have hno9:=Qh ((hx9 _ M.out.lt).trans M.out.no1)
     clear hr9 hx9 hok9 hbox hrow z0 z1 z2 z3
     go_wp2_with (refine Xab rfl rfl 30 _ _ rfl (w.heap.size+1) 0 [.int .u32 ai,.int .i64 dt,.int .i64 sp,.slice as1 L2.length ks] (arcV ai dt sp (.slice as1 L2.length ks)) (by simp [Act.eval]) (by simp [Act.eval]) (by rfl) zeroA 30 hout (by simp) (by kernel_rfl) (by simp [Value.oneCell']) #[.int .u32 ai,.int .i64 dt,.int .i64 sp,.slice as1 L2.length ks] (by rfl) ?_
                  intro w9 hg9 hr9)
     refine bodyPost_ret (v:= .tuple #[arcV ai dt sp (.slice as1 L2.length ks),.int .i64 (l.length:Int),.int .i64 0]) ?_ rfl ?_
     ·rw [Xa6 rfl]
      simp [asAddr,run_loadVar_row w9 (w.heap.size+1) 30 30 _ (0,0) _ hr9 Tryz.underlying30 rfl Hi4.out]
     ·rw [Hn.out]
      exact ⟨_,J9,rfl,Hb6.out.grown hg9 Hb6.out.size (fun k e=>by injection e with e;omega),Hx9.out,Hok6.out.grown hg9 (fun g e=>by injection e with e;subst e;exact hno9.out),Hr9.out⟩
structure RgF {X:Type} (W:World) (j1 j2 j3 j4:Nat) (G1 G2 G3 G4:X→World→Prop) (x:X) (s:Array Bool) (w:World):Prop where
 off:Below W.heap.size W w
 f1:s.getD j1 false=true→G1 x w
 f2:s.getD j2 false=true→G2 x w
 f3:s.getD j3 false=true→G3 x w
 f4:s.getD j4 false=true→G4 x w
section
variable {X:Type} {W w w':World} {j1 j2 j3 j4:Nat} {G1 G2 G3 G4:X→World→Prop} {x:X} {s:Array Bool} {i:Nat}
theorem RgF.start (n:Nat) (x:X):RgF W j1 j2 j3 j4 G1 G2 G3 G4 x (Array.replicate n false) { W with drawn:=W.drawn+1 }:=
 ⟨(Qb _ _).drew,fun h=>(by rw [Xa9] at h;cases h),fun h=>(by rw [Xa9] at h;cases h),fun h=>(by rw [Xa9] at h;cases h),fun h=>(by rw [Xa9] at h;cases h)⟩
theorem RgF.pure (h:RgF W j1 j2 j3 j4 G1 G2 G3 G4 x s w) (hd:i≠j1∧i≠j2∧i≠j3∧i≠j4):RgF W j1 j2 j3 j4 G1 G2 G3 G4 x (s.setIfInBounds i true) w:=by
 obtain ⟨h1,h2,h3,h4⟩:=hd
 refine ⟨h.off,?_,?_,?_,?_⟩
 ·rw [getD_set_ne false h1];exact h.f1
 ·rw [getD_set_ne false h2];exact h.f2
 ·rw [getD_set_ne false h3];exact h.f3
 ·rw [getD_set_ne false h4];exact h.f4
theorem RgF.step (h:RgF W j1 j2 j3 j4 G1 G2 G3 G4 x s w) (hb:Below W.heap.size W w') {x':X}
 (k1:i=j1∨(s.getD j1 false=true∧G1 x w)→G1 x' w') (k2:i=j2∨(s.getD j2 false=true∧G2 x w)→G2 x' w') (k3:i=j3∨(s.getD j3 false=true∧G3 x w)→G3 x' w') (k4:i=j4∨(s.getD j4 false=true∧G4 x w)→G4 x' w'):
 RgF W j1 j2 j3 j4 G1 G2 G3 G4 x' (s.setIfInBounds i true) w':=
 ⟨hb,fun a=>k1 ((Xf2 a).imp id fun q=>⟨q,h.f1 q⟩),fun a=>k2 ((Xf2 a).imp id fun q=>⟨q,h.f2 q⟩),fun a=>k3 ((Xf2 a).imp id fun q=>⟨q,h.f3 q⟩),fun a=>k4 ((Xf2 a).imp id fun q=>⟨q,h.f4 q⟩)⟩
end
structure Pt2 (W:World) (m1 m2:Nat) (R1 R2:Array Value) (s:Array Bool) (w:World):Prop where
 eq:w=if s.getD 3 false=true then (({ W with drawn:=W.drawn+1 }:World).setRow m1 R1).setRow m2 R2 else if s.getD 2 false=true then ({ W with drawn:=W.drawn+1 }:World).setRow m1 R1 else { W with drawn:=W.drawn+1 }
section
variable {W w:World} {m1 m2:Nat} {R1 R2:Array Value} {s:Array Bool} {i:Nat}
end
theorem one_row {α:Type} {T:Ty α} {E:TypeId} {J:IH} {W:World} {g:Nat} {cs:List Value} {x:α} (hw:Ok J W) (hg:W.heap[g]? =some (.cells cs.toArray E (0,0))) (hn:J g=none) (hx:T.rd J cs x):
 ∃J',(∀b c,J b=some c→J' b=some c)∧Ext g J J'∧Ok J' W∧(∀b,b≠g→J' b=J b)∧RdS T J' (.slice (some ⟨g,0,none⟩) 1 1) [x]:=by
 have hkeep:∀b c,J b=some c→(J.add g cs.toArray) b=some c:=fun b c hc=>by
  unfold IH.add
  by_cases e:b=g
  ·subst e;rw [hn] at hc;cases hc
  ·rw [if_neg e];exact hc
 refine ⟨J.add g cs.toArray,hkeep,Ext.add (Qn _) J _,hw.add hg,fun b hb=>by simp [IH.add,hb],⟨_,1,rfl,Qn _,by unfold maxLen;omega,fun _=>⟨g,0,cs.toArray,rfl,by simp [IH.add],fun i hi=> ?_⟩⟩⟩
 have h0:i=0:=by simp at hi;omega
 subst h0
 refine ⟨cs,T.mono hkeep hx,fun j u hu=> ?_⟩
 simpa using hu
theorem MAt.own {I J:IH} {w0 W W':World} (h:MAt I w0 J W) {g:Nat} (hg:W.grownBy W' (some g)) (hn:J g=none) (hl:w0.heap.size≤g):MAt I w0 J W':=
 ⟨h.ok.grown hg (fun k e=>by injection e with e;subst e;exact hn),h.keep,h.bel.grown hg h.size (fun k e=>by injection e with e;omega)⟩
theorem Xxq {α:Type} {T:Ty α} {I:IH} {v:Value} {l:List α} {n:Nat} (h:RdS T I v l) (hn:l.length=n):∃ao cap,v= .slice ao n cap:=by
 obtain ⟨ao,cap,e,_⟩:=h
 exact ⟨ao,cap,by rw [e,hn]⟩
theorem Xgc {ops:Array Oper} {tmps:Array Value} {j:Nat} {t:Tmp} {b:Bool} (ho:(ops[j]?).bind (·.dst)=some t) (h:tmps[t]?.getD undef= .bool b):yielded ops tmps j=some b:=by
 unfold yielded
 rw [ho]
 cases ht:tmps[t]? with
 |none=>rw [ht] at h;cases h
 |some v=>rw [ht] at h;have h:v= .bool b:=h;subst h;simp [ht]
end Go.Proofs.YtjdednajelommaaGreatDoor
namespace Go.Proofs.YtjdednajelommaaGreatDoor
theorem Xxn (s:Bytes):(sumP s).length=32:=by
 unfold sumP
 rw [List.length_map]
 exact Xq4 _ (Xbb ..)
def txtA:Bytes:= [116,101,120,116]
def digA:Bytes:=sumP txtA
def yA:Ent:=⟨1,[97],[],[],4,digA,[⟨1,0,4⟩]⟩
def yR:Ent:=⟨4,[97],[],[],0,[],[]⟩
def sA:Ses:=⟨1,5,[],[yA],txtA,[]⟩
def sB:Ses:=⟨2,6,(dirDig sA).1,[yR],[],[]⟩
theorem Xut:∀ {l:Bytes},l.length=32→ ∃a0 a1 a2 a3 a4 a5 a6 a7 a8 a9 b0 b1 b2 b3 b4 b5 b6 b7 b8 b9 c0 c1 c2 c3 c4 c5 c6 c7 c8 c9 d0 d1,l= [a0,a1,a2,a3,a4,a5,a6,a7,a8,a9,b0,b1,b2,b3,b4,b5,b6,b7,b8,b9,c0,c1,c2,c3,c4,c5,c6,c7,c8,c9,d0,d1]
 | [a0,a1,a2,a3,a4,a5,a6,a7,a8,a9,b0,b1,b2,b3,b4,b5,b6,b7,b8,b9,c0,c1,c2,c3,c4,c5,c6,c7,c8,c9,d0,d1],_=>⟨a0,a1,a2,a3,a4,a5,a6,a7,a8,a9,b0,b1,b2,b3,b4,b5,b6,b7,b8,b9,c0,c1,c2,c3,c4,c5,c6,c7,c8,c9,d0,d1,rfl⟩
end Go.Proofs.YtjdednajelommaaGreatDoor
namespace Go.Proofs.YtjdednajelommaaGreatDoor
def abcB:Bytes:= [97,98,99]
def cA:Chg:=⟨1,[97],[],[],abcB⟩
def xC:Xt:=⟨1,0,3⟩
def yC:Ent:=⟨1,[97],[],[],3,sumP abcB,[xC]⟩
def sC:Ses:=⟨1,5,[],[yC],abcB,[]⟩
set_option maxRecDepth 100000 in
theorem Xvc:segsP abcB= [⟨0,abcB⟩]:=by kernel_rfl
set_option maxRecDepth 100000 in
theorem Xw5:chunksP abcB= [abcB]:=by kernel_rfl
theorem Xwd:putP ⟨[],1,[]⟩ abcB=(⟨[⟨sumP abcB,xC⟩],1,abcB⟩,[xC],0):=by
 have h:(segsP abcB).foldl putG (⟨[],1,[]⟩,[])=(⟨[⟨sumP abcB,xC⟩],1,abcB⟩,[xC]):=by
  rw [Xvc]
  show putG (⟨[],1,[]⟩,[]) ⟨0,abcB⟩=_
  rw [putG,if_neg (by decide)]
  show (chunksP abcB).foldl putO (⟨[],1,[]⟩,[])=_
  rw [Xw5]
  rfl
 rw [putP,if_neg (by decide),if_neg (by decide),h]
theorem Xwb:recP ⟨[],1,[]⟩ cA=(yC,⟨[⟨sumP abcB,xC⟩],1,abcB⟩):=by
 have h:=Xwd
 unfold recP
 rw [if_pos (by rfl),show cA.content=abcB from rfl,h]
 rfl
set_option maxRecDepth 100000 in
theorem Xxd {d:Bytes} (h:d.length=32):applyT [] ⟨1,[97],[],[],3,d,[⟨1,0,3⟩]⟩=([⟨1,[97],[],[],3,d,[⟨1,0,3⟩]⟩],0):=by
 obtain ⟨a0,a1,a2,a3,a4,a5,a6,a7,a8,a9,b0,b1,b2,b3,b4,b5,b6,b7,b8,b9,c0,c1,c2,c3,c4,c5,c6,c7,c8,c9,d0,d1,rfl⟩:=Xut h
 kernel_rfl
set_option maxRecDepth 100000 in
theorem Xwm {d:Bytes} (h:d.length=32):entErr ⟨1,[97],[],[],3,d,[⟨1,0,3⟩]⟩=0:=by
 obtain ⟨a0,a1,a2,a3,a4,a5,a6,a7,a8,a9,b0,b1,b2,b3,b4,b5,b6,b7,b8,b9,c0,c1,c2,c3,c4,c5,c6,c7,c8,c9,d0,d1,rfl⟩:=Xut h
 kernel_rfl
theorem Xu7:stpP nilS yC 5=(⟨[yC],[]⟩,0):=by
 have h:applyT [] yC=([yC],0):=Xxd (Xxn _)
 unfold stpP
 rw [show nilS.tree= [] from rfl,h]
 rfl
theorem Xxh:addP (openP [] 5) cA=(⟨1,5,[],[yC],⟨[⟨sumP abcB,xC⟩],1,abcB⟩,[yC],[]⟩,0):=by
 have h1:recP (openP [] 5).sto cA=(yC,⟨[⟨sumP abcB,xC⟩],1,abcB⟩):=Xwb
 have h2:stpP (openP [] 5).stt yC (openP [] 5).date=(⟨[yC],[]⟩,0):=Xu7
 have h3:entErr yC=0:=Xwm (Xxn _)
 unfold addP
 rw [h1]
 dsimp only
 rw [h2,if_neg (by omega),if_neg (by rintro ⟨h,_⟩;exact h rfl),if_neg (by rintro (h|h)<;>exact absurd h (by decide)),if_neg (by decide)]
 rfl
theorem Xu2:wrtP [] 5 [cA]=([sC],1,0):=by
 have h:addsP (openP [] 5) 0 [cA]=(⟨1,5,[],[yC],⟨[⟨sumP abcB,xC⟩],1,abcB⟩,[yC],[]⟩,1,0):=by
  rw [addsP,Xxh,if_neg (by decide),addsP]
 unfold wrtP
 rw [if_neg (by decide),h]
 rfl
theorem cA_sm:cA.Sm:=⟨by decide,by decide,by decide,by decide,by decide,by decide,fun x hx=>(by cases hx)⟩
end Go.Proofs.YtjdednajelommaaGreatDoor
namespace Go.Proofs.YtjdednajelommaaGreatDoor
open Go.RowKit
structure ArB (J:IH) (w:World) (B:Nat) (ai dt sp:Int) (vs:Value) (L:List Ses):Prop where
 no:J B=none
 rd:RdS tSes J vs L
 row:w.heap[B]? =some (.cells #[.int .u32 ai,.int .i64 dt,.int .i64 sp,vs] 30 (0,0))
section
variable {I J J':IH} {w0 w w':World} {B:Nat} {ai dt sp:Int} {vs:Value} {L:List Ses}
theorem ArB.lt (h:ArB J w B ai dt sp vs L):B<w.heap.size:=(Array.getElem?_eq_some_iff.1 h.row).1
theorem ArB.ext (h:ArB J w B ai dt sp vs L) (hok:Ok J w) (hb:Below w.heap.size w w') (hx:Ext w.heap.size J J'):ArB J' w' B ai dt sp vs L:=
 ⟨(hx _ h.lt).trans h.no,h.rd.mono (fun b c hc=>hx.keep hok (Qn _) b c hc),(hb.block _ h.lt).trans h.row⟩
theorem ArB.quiet (h:ArB J w B ai dt sp vs L) (hb:Below w.heap.size w w'):ArB J w' B ai dt sp vs L:=
 ⟨h.no,h.rd,(hb.block _ h.lt).trans h.row⟩
theorem ArB.own (h:ArB J w B ai dt sp vs L) {g:Nat} (hg:w.grownBy w' (some g)) (hne:B≠g):ArB J w' B ai dt sp vs L:=
 ⟨h.no,h.rd,(hg.block _ h.lt (fun e=>by injection e with e;exact hne e)).trans h.row⟩
end
def RetA (I:IH) (w:World) (ai dt sp:Int) (L:List Ses) (e:Ending) (w':World):Prop:=
 ∃vs J,e= .returned (arcV ai dt sp vs)∧Below w.heap.size w w'∧Ext w.heap.size I J∧Ok J w'∧RdS tSes J vs L
set_option maxRecDepth 100000 in
set_option maxHeartbeats 4000000 in
theorem Xep (I:IH) (hI:Glob I) (w:World) (hw:Ok I w):
 Calls Tryz.prog 13 #[] w fun e w'=>e= .returned (.bool true)∧Below w.heap.size w w':=by
 have A0:=(MAt.start hw).past (.cells (chgCs cA (.slice none 0 0)).toArray 53)
 obtain ⟨K,hk,_,hok,_,hr⟩:=one_row (T:=tChg) (x:=cA) (cs:=chgCs cA (.slice none 0 0)) A0.ok (heap_alloc_new w _) (hw.fresh (Qn _)) ⟨_,rfl,RdS.nil _ _⟩
 have Hw:=Qh (Xge K (hI.mono hk) 7 0 0 [] Xne [cA] (by decide) (by decide) (.slice none 0 0) (RdS.nil _ _) 5 _ hr (fun c hc=>by rw [List.mem_singleton.1 hc];exact ⟨cA_sm.wf,by decide,by decide⟩) _ hok)
 rw [Xu2] at Hw
 have A1:=Qh (show MAt I w K _ from ⟨hok,hk,A0.bel⟩)
 clear A0 hk hok hr hI
 go_enter Tryz.func13,Tryz.ntmps13
 go_wp2_with fail
 refine Hw.out.mono ?_
 rintro e1 w1 ⟨vs,J1,rfl,hb1,hx1,hok1,hr1⟩
 have A2:=Qh (A1.out.ext hb1 hx1 hok1)
 obtain ⟨a1,c1,rfl⟩:=Xxq (n:=1) hr1 rfl
 have Hr:=Qh (show RdS tSes J1 (.slice a1 1 c1) [sC] from hr1)
 clear hb1 hx1 hok1 hr1 A1 Hw
 go_upto_region 2 with (
  refine Xab rfl rfl 30 _ _ rfl w1.heap.size 0 [.int .u32 7,.int .i64 0,.int .i64 0,.slice a1 1 c1] (arcV 7 0 0 (.slice a1 1 c1)) (by simp [Act.eval]) (by simp [Act.eval]) (by rfl) zeroA 30 (heap_alloc_new _ _) (by simp) (by kernel_rfl) (by simp [Value.oneCell']) #[.int .u32 7,.int .i64 0,.int .i64 0,.slice a1 1 c1] (by rfl) ?_
  intro w2 hg2 hr2)
 have hb2:Below w1.heap.size w1 w2:=((Qb _ _).alloc (Qn _) _).grown hg2 (by simp) (fun k e=>by injection e with e;omega)
 have A3:=Qh (A2.out.quiet hb2)
 obtain ⟨z0,z1,z2,z3⟩:=Xag hr2
 obtain ⟨x,ve,b,off,cap,hlx,hvv,⟨c0,c1',c2,c3,c4,c5⟩,h1⟩:=Xfn Hr.out A3.out.ok 0 (by decide)
 obtain rfl:sC=x:=hlx
 cases hvv
 obtain ⟨e,va,vx,b2,off2,cap2,hle,hvv,⟨d0,d1,d2,d3,d4,d5,d6⟩,h2,h3⟩:=Xeu h1 A3.out.ok 0 (by decide)
 obtain rfl:yC=e:=hle
 cases hvv
 obtain ⟨x,b3,off3,cap3,hlt,hvv,x0,x1,x2⟩:=xtAt h3 A3.out.ok 0 (by decide)
 obtain rfl:xC=x:=hlt
 cases hvv
 replace c0:w2.cell? ⟨b,off,none⟩=some (.int .i64 1):=c0
 have c1:w2.cell? ⟨b,off+1,none⟩=some (.int .i64 5):=c1'
 replace c2:w2.cell? ⟨b,off+2,none⟩=some (S []):=c2
 replace c3:w2.cell? ⟨b,off+3,none⟩=some (.slice (some ⟨b2,off2,none⟩) 1 cap2):=c3
 replace c4:w2.cell? ⟨b,off+4,none⟩=some (S [97,98,99]):=c4
 replace c5:w2.cell? ⟨b,off+5,none⟩=some (S []):=c5
 replace d6:w2.cell? ⟨b2,off2+6,none⟩=some (.slice (some ⟨b3,off3,none⟩) 1 cap3):=d6
 replace x0:w2.cell? ⟨b3,off3,none⟩=some (.int .i64 1):=x0
 replace x1:w2.cell? ⟨b3,off3+1,none⟩=some (.int .i64 0):=x1
 replace x2:w2.cell? ⟨b3,off3+2,none⟩=some (.int .i64 3):=x2
 have hz:=block_lt_of_cell z0
 clear hg2 hr2 c1' d0 d1 d2 d3 d4 d5 h1 h2 h3
 go_upto_region 5 with (
  refine Xab rfl rfl 56 _ _ rfl w2.heap.size 0 [.int .i64 1,.int .i64 5,S [],.slice (some ⟨b2,off2,none⟩) 1 cap2,S [97,98,99],S []] (.agg #[.int .i64 1,.int .i64 5,S [],.slice (some ⟨b2,off2,none⟩) 1 cap2,S [97,98,99],S []]) (by simp [Act.eval]) (by simp [Act.eval]) (by rfl) zeroS 56 (heap_alloc_new _ _) (by simp) (by kernel_rfl) (by simp [Value.oneCell']) #[.int .i64 1,.int .i64 5,S [],.slice (some ⟨b2,off2,none⟩) 1 cap2,S [97,98,99],S []] (by rfl) ?_
  intro w3 hg3 hr3)
 have hb3:Below w2.heap.size w2 w3:=((Qb _ _).alloc (Qn _) _).grown hg3 (by simp) (fun k e=>by injection e with e;omega)
 have A4:=Qh (A3.out.quiet hb3)
 replace z0:=Xaa hb3 z0
 replace d6:=Xaa hb3 d6
 replace x0:=Xaa hb3 x0
 replace x1:=Xaa hb3 x1
 replace x2:=Xaa hb3 x2
 have s0:w3.cell? ⟨w2.heap.size,0,none⟩=some (.int .i64 1):=(cell_of_row _ _ 0 _ _ _ hr3).trans rfl
 have s1:w3.cell? ⟨w2.heap.size,1,none⟩=some (.int .i64 5):=(cell_of_row _ _ 1 _ _ _ hr3).trans rfl
 have s3:w3.cell? ⟨w2.heap.size,3,none⟩=some (.slice (some ⟨b2,off2,none⟩) 1 cap2):=(cell_of_row _ _ 3 _ _ _ hr3).trans rfl
 have s4:w3.cell? ⟨w2.heap.size,4,none⟩=some (S [97,98,99]):=(cell_of_row _ _ 4 _ _ _ hr3).trans rfl
 clear c0 c1 c2 c3 c4 c5 z1 z2 z3 hg3 hr3 hb3 A3
 go_wp2_with fail
 go_ret
 exact ⟨rfl,A4.out.bel⟩
end Go.Proofs.YtjdednajelommaaGreatDoor
