/-
  Walks and laws that the claim's theorem uses: texts CtE, joined; comments out. Conditions: as each theorem says.
-/
import Derived.Test.YtmdfjnhfhidmhaaGreatDoorK20
import Derived.Test.YtmdfjnhfhidmhaaGreatDoorK25
set_option linter.all false
namespace Go.Proofs.YtmdfjnhfhidmhaaGreatDoor
open Go.RowKit
abbrev puL (n:Nat) (ao:Option Addr) (le cap:Nat) (ses:Int) (str:Bytes) (x:Nat × (Option Addr × Nat)):List (Option Tmp × Value):=
 [(some 18,.pointer (some ⟨n,0,none⟩)),(some 19,.slice ao le cap),(some 20,.slice x.2.1 le x.2.2),(some 21,.pointer (some ⟨n,1,none⟩)),(some 22,.int .i64 ses),(some 23,.pointer (some ⟨n,2,none⟩)),(some 24,S str),(some 25,.agg #[.slice x.2.1 le x.2.2,.int .i64 ses,S str]),(some 7,.pointer (some ⟨x.1,0,none⟩)),(none,undef)]
theorem Xat {n:Nat} {ao:Option Addr} {le cap:Nat} {ses:Int} {str:Bytes} {x:Nat × (Option Addr × Nat)}:ApartF (puL n ao le cap ses str x):=by
 unfold ApartF
 simp
abbrev pvL (n m bo:Nat) (ak:Option Addr) (le ck:Nat) (ses:Int) (str:Bytes) (ve:Value) (x:Nat × Nat):List (Option Tmp × Value):=
 [(some 108,.agg #[.slice ak le ck,.int .i64 ses,S str]),(some 109,.func (.func 196) #[] #[.pointer (some ⟨bo,0,none⟩)]),(some 110,ve),(none,undef),(some 5,ve),(some 6,.int .i64 0)]
theorem Xbi {n m bo:Nat} {ak:Option Addr} {le ck:Nat} {ses:Int} {str:Bytes} {ve:Value} {x:Nat × Nat}:ApartF (pvL n m bo ak le ck ses str ve x):=by
 unfold ApartF
 simp
set_option maxRecDepth 100000 in
set_option maxHeartbeats 8000000 in
theorem Xsd (L C:Nat) (hL:L≤4294967296) (hC0:C≤10000000) (I:IH) (s:Sto) (vc:Value) (hv:RdS tCk I vc s.cks) (hs:StoOk L C s) (hd:∀c∈s.cks,c.d.length≤32) (c:Bytes) (hc:c.length≤4294967280) (w:World) (hw:Ok I w):
 Calls Tryz.prog 103 #[stoV s vc,S c] w (PutR I w (putP s c)):=by
 have hckn:=hs.cks
 obtain ⟨ao,cap,rfl,_,_,_⟩:=id hv
 have Hcl:=Qh (fun w hw=>Xl2 I _ s.cks hv w hw (by omega))
 have Hix:=Qh (fun w hw=>Xrh I s _ hv (by omega) hd w hw)
 obtain ⟨W2,hW2⟩:∃W2,((w.alloc (.cells #[.slice ao s.cks.length cap,.int .i64 s.ses,S s.str] 40)).alloc (.cells #[.slice none 0 0,.int .i64 0,S []] 40))=W2:=⟨_,rfl⟩
 have hok2:Ok I W2:=by rw [←hW2];exact (hw.alloc _).alloc _
 have hsz2:W2.heap.size=w.heap.size+2:=by rw [←hW2];simp
 have Hr0:=Qh (show W2.heap[w.heap.size]? =some (.cells #[.slice ao s.cks.length cap,.int .i64 s.ses,S s.str] 40 (0,0)) by rw [←hW2];exact (Below.heap_alloc _ _ _ (by simp)).trans (heap_alloc_new w _))
 have Hr1:=Qh (show W2.heap[w.heap.size+1]? =some (.cells #[.slice none 0 0,.int .i64 0,S []] 40 (0,0)) by
  rw [←hW2]
  have h:=heap_alloc_new (w.alloc (.cells #[.slice ao s.cks.length cap,.int .i64 s.ses,S s.str] 40)) (.cells #[.slice none 0 0,.int .i64 0,S []] 40)
  simpa using h)
 have hb2:Below w.heap.size w W2:=by rw [←hW2];exact ((Qb _ _).alloc (Qn _) _).alloc (by simp) _
 have c0:W2.cell? ⟨w.heap.size,0,none⟩=some (.slice ao s.cks.length cap):=(cell_of_row _ _ 0 _ _ _ Hr0.out).trans rfl
 have c1:W2.cell? ⟨w.heap.size,1,none⟩=some (.int .i64 s.ses):=(cell_of_row _ _ 1 _ _ _ Hr0.out).trans rfl
 have c2:W2.cell? ⟨w.heap.size,2,none⟩=some (S s.str):=(cell_of_row _ _ 2 _ _ _ Hr0.out).trans rfl
 have Hs:=Qh hs
 clear hv hs hd
 go_enter Tryz.func103,Tryz.ntmps103
 go_wp2_with fail
 refine Xak (X:=Nat × (Option Addr × Nat)) (puL w.heap.size ao s.cks.length cap s.ses s.str) (RgC W2 2 8 (fun y w=>OwnS tCk 156 I w W2.heap.size (.slice y.1 s.cks.length y.2) s.cks) (fun k w=>w.heap[k]? =some (.cells #[.slice none 0 0,.int .i64 0,S []] 40 (0,0))∧W2.heap.size≤k) (fun x=>x.1) 40 9 211 212 (fun x=> #[.slice x.2.1 s.cks.length x.2.2,.int .i64 s.ses,S s.str]) (fun x=> #[.slice x.2.1 s.cks.length x.2.2,.int .i64 s.ses,S s.str]) (fun x=> #[.slice x.2.1 s.cks.length x.2.2,.int .i64 s.ses,S s.str])) (by kernel_rfl) (by kernel_rfl) ?_ ?_ ?_
 ·exact ⟨(0,default),RgC.start _ _⟩
 ·rintro x s' a' w' i hsz hcl ha hC hi
  obtain ⟨hun,oi,hoi,hall⟩:=mem_ready.1 hi
  rcases i with _|_|_|_|_|_|_|_|_|_|i
  rotate_left 10
  ·simp at hoi
  all_goals
   have hoj:=hoi
   simp at hoi
   subst hoi
   simp [Region.binds] at hall
  ·have e2:a'.tmps[2]?.getD undef= .pointer (some ⟨w.heap.size,0,none⟩):=Xbe ha (by simp)
   refine wpOp_step hoj (fun K' hK=> ?_)
   rw [if_pos (by rfl)]
   unfold Oper.wp
   simp [go_sem,e2,Oper.upon]
   exact hK _ _ ⟨x,Xac (d:=some 18) (v:= .pointer (some ⟨w.heap.size,0,none⟩)) Xat ha rfl hun,hC.pure (by decide) (by decide) (by decide) (by decide) (by decide)⟩
  ·have e18:a'.tmps[18]?.getD undef= .pointer (some ⟨w.heap.size,0,none⟩):=Xap (i:=0) Xat ha rfl (by first|simpa using hall|simp [hall]) (by simp)
   have hl:s'.getD 9 false=false:=Xae hcl [1] (by kernel_rfl) (by rfl) hun
   have cq:=Xaa (hC.off hl) c0
   refine wpOp_step hoj (fun K' hK=> ?_)
   rw [if_pos (by rfl)]
   unfold Oper.wp
   simp [go_sem,e18,cq,Oper.upon]
   exact hK _ _ ⟨x,Xac (d:=some 19) (v:= .slice ao s.cks.length cap) Xat ha rfl hun,hC.pure (by decide) (by decide) (by decide) (by decide) (by decide)⟩
  ·have e19:a'.tmps[19]?.getD undef= .slice ao s.cks.length cap:=Xap (i:=1) Xat ha rfl (by first|simpa using hall|simp [hall]) (by simp)
   have hl:s'.getD 9 false=false:=Xae hcl [2] (by kernel_rfl) (by rfl) hun
   have hokw:=hok2.below (Qn _) (hC.off hl)
   refine wpOp_step hoj (fun K' hK=> ?_)
   rw [if_pos (by rfl)]
   unfold Oper.wp
   simp [go_sem,e19,Oper.upon]
   refine (Hcl.out _ hokw).mono ?_
   rintro r4 w4 ⟨v7,rfl,ho,hb4⟩
   obtain ⟨a7,k7,rfl⟩:=Xb9 ho
   have ha:=ha.trans (Xa3 (L:=puL w.heap.size ao s.cks.length cap s.ses s.str x) (M:=puL w.heap.size ao s.cks.length cap s.ses s.str (x.1,(a7,k7))) [2,7] rfl (fun j hne=>by
    rcases j with _|_|_|_|_|_|_|_|_|_|j<;>first|rfl|(exact absurd (by decide) hne)|simp) (List.forall_mem_cons.2 ⟨Xam hun,List.forall_mem_cons.2 ⟨Xae hcl [2] (by kernel_rfl) (by rfl) hun,List.forall_mem_nil _⟩⟩))
   exact hK _ _ ⟨(x.1,(a7,k7)),Xac (d:=some 20) (v:= .slice (a7,k7).1 s.cks.length (a7,k7).2) Xat ha rfl hun,hC.call hl hb4 (ho.lower (hC.off hl).size) (fun k hk=>⟨(hb4.block _ (Array.getElem?_eq_some_iff.1 hk.1).1).trans hk.1,hk.2⟩) (by decide) (by decide)⟩
  ·have e2:a'.tmps[2]?.getD undef= .pointer (some ⟨w.heap.size,0,none⟩):=Xbe ha (by simp)
   refine wpOp_step hoj (fun K' hK=> ?_)
   rw [if_pos (by rfl)]
   unfold Oper.wp
   simp [go_sem,e2,Oper.upon]
   exact hK _ _ ⟨x,Xac (d:=some 21) (v:= .pointer (some ⟨w.heap.size,1,none⟩)) Xat ha rfl hun,hC.pure (by decide) (by decide) (by decide) (by decide) (by decide)⟩
  ·have e21:a'.tmps[21]?.getD undef= .pointer (some ⟨w.heap.size,1,none⟩):=Xap (i:=3) Xat ha rfl (by first|simpa using hall|simp [hall]) (by simp)
   have hl:s'.getD 9 false=false:=Xae hcl [4] (by kernel_rfl) (by rfl) hun
   have cq:=Xaa (hC.off hl) c1
   refine wpOp_step hoj (fun K' hK=> ?_)
   rw [if_pos (by rfl)]
   unfold Oper.wp
   simp [go_sem,e21,cq,Oper.upon]
   exact hK _ _ ⟨x,Xac (d:=some 22) (v:= .int .i64 s.ses) Xat ha rfl hun,hC.pure (by decide) (by decide) (by decide) (by decide) (by decide)⟩
  ·have e2:a'.tmps[2]?.getD undef= .pointer (some ⟨w.heap.size,0,none⟩):=Xbe ha (by simp)
   refine wpOp_step hoj (fun K' hK=> ?_)
   rw [if_pos (by rfl)]
   unfold Oper.wp
   simp [go_sem,e2,Oper.upon]
   exact hK _ _ ⟨x,Xac (d:=some 23) (v:= .pointer (some ⟨w.heap.size,2,none⟩)) Xat ha rfl hun,hC.pure (by decide) (by decide) (by decide) (by decide) (by decide)⟩
  ·have e23:a'.tmps[23]?.getD undef= .pointer (some ⟨w.heap.size,2,none⟩):=Xap (i:=5) Xat ha rfl (by first|simpa using hall|simp [hall]) (by simp)
   have hl:s'.getD 9 false=false:=Xae hcl [6] (by kernel_rfl) (by rfl) hun
   have cq:=Xaa (hC.off hl) c2
   refine wpOp_step hoj (fun K' hK=> ?_)
   rw [if_pos (by rfl)]
   unfold Oper.wp
   simp [go_sem,e23,cq,Oper.upon]
   exact hK _ _ ⟨x,Xac (d:=some 24) (v:=S s.str) Xat ha rfl hun,hC.pure (by decide) (by decide) (by decide) (by decide) (by decide)⟩
  ·have e20:a'.tmps[20]?.getD undef= .slice x.2.1 s.cks.length x.2.2:=Xap (i:=2) Xat ha rfl (by first|simpa using hall|simp [hall]) (by simp)
   have e22:a'.tmps[22]?.getD undef= .int .i64 s.ses:=Xap (i:=4) Xat ha rfl (by first|simpa using hall|simp [hall]) (by simp)
   have e24:a'.tmps[24]?.getD undef=S s.str:=Xap (i:=6) Xat ha rfl (by first|simpa using hall|simp [hall]) (by simp)
   refine wpOp_step hoj (fun K' hK=> ?_)
   rw [if_pos (by rfl)]
   unfold Oper.wp
   simp [go_sem,e20,e22,e24,Oper.upon]
   exact hK _ _ ⟨x,Xac (d:=some 25) (v:= .agg #[.slice x.2.1 s.cks.length x.2.2,.int .i64 s.ses,S s.str]) Xat ha rfl hun,hC.pure (by decide) (by decide) (by decide) (by decide) (by decide)⟩
  ·have hl:s'.getD 9 false=false:=Xae hcl [8] (by kernel_rfl) (by rfl) hun
   refine wpOp_step hoj (fun K' hK=> ?_)
   rw [if_pos (by rfl)]
   unfold Oper.wp
   simp [go_sem,Oper.upon]
   have ha:=ha.trans (Xa3 (L:=puL w.heap.size ao s.cks.length cap s.ses s.str x) (M:=puL w.heap.size ao s.cks.length cap s.ses s.str (w'.heap.size,x.2)) [8] rfl (fun j hne=>by
    rcases j with _|_|_|_|_|_|_|_|_|_|j<;>first|rfl|(exact absurd (by decide) hne)|simp) (List.forall_mem_cons.2 ⟨Xam hun,List.forall_mem_nil _⟩))
   exact hK _ _ ⟨(w'.heap.size,x.2),Xac (d:=some 7) (v:= .pointer (some ⟨w'.heap.size,0,none⟩)) Xat ha rfl hun,hC.made hl ((Qb _ _).alloc (Qn _) _) ⟨heap_alloc_new _ _,(hC.off hl).size⟩ (fun y hy=>hy.alloc _) (by decide) (by decide)⟩
  ·have e25:a'.tmps[25]?.getD undef= .agg #[.slice x.2.1 s.cks.length x.2.2,.int .i64 s.ses,S s.str]:=Xap (i:=7) Xat ha rfl (by first|simpa using hall|simp [hall]) (by simp)
   have e7:a'.tmps[7]?.getD undef= .pointer (some ⟨x.1,0,none⟩):=Xap (i:=8) Xat ha rfl (by first|simpa using hall|simp [hall]) (by simp)
   refine wpOp_step hoj (fun K' hK=> ?_)
   rw [if_pos (by rfl)]
   have hsc:s'.getD 2 false=true:=by first|simpa using hall|simp [hall]
   have hsa:s'.getD 8 false=true:=by first|simpa using hall|simp [hall]
   have hlo:s'.getD 9 false=false:=Xam hun
   have hrow:w'.heap[x.1]? =some (.cells _ 40 (0,0)):=(hC.fa hsa hlo).1
   refine Xag 40 _ _ rfl (x.1) 0 [.slice x.2.1 s.cks.length x.2.2,.int .i64 s.ses,S s.str] (.agg #[.slice x.2.1 s.cks.length x.2.2,.int .i64 s.ses,S s.str]) (by simp [Act.eval,e25,e7]) (by simp [Act.eval,e25,e7]) (by rfl) _ _ hrow (by simp) (by kernel_rfl) (by simp [Value.oneCell']) ?_
   exact hK _ _ ⟨x,Xac (d:=none) (v:=undef) Xat ha rfl hun,hC.put1 hun (hC.fc hsc hlo) (hC.fa hsa hlo) (Xan (by simp [hsz])) (Xan (by simp [hsz])) (by decide) hrow (by rfl)⟩
 ·rintro x s' a' w8 hup ha hC
  obtain ⟨wb,hbW,hGc,hGa,hgr,hrow⟩:=hC.on (hup 9 (by decide))
  simp only [ite_self] at hrow
  rw [Xa6 _ _ _ _ (fun i hi=>by rw [Nat.zero_add];exact hup i (by simpa using hi))] at ha
  subst ha
  simp only [fillAll,Act.put]
  obtain ⟨m,ao7,k7⟩:=x
  dsimp only at hGc hGa hgr hrow ⊢
  have hne:=Xbg hGc hGa.1 (by decide)
  have ho8:=hGc.kept hgr (.inr hne)
  have hm:w.heap.size+2≤m:=by have:=hGa.2;omega
  have hok8:Ok I w8:=(hok2.below (Qn _) hbW).grown hgr (fun g e=>by cases e;exact hw.fresh (by omega))
  have hbb:Below w.heap.size w w8:=(hb2.trans (hbW.mono hb2.size)).grown hgr (by have:=hbW.size;omega) (fun k e=>by cases e;omega)
  have hz:∀b,b<w.heap.size+2→w8.heap[b]? =W2.heap[b]? :=fun b hb=>(hgr.block _ (by have:=hbW.size;omega) (fun e=>by cases e;omega)).trans (hbW.block _ (by omega))
  have Hr8:=Qh ((hz (w.heap.size+1) (by omega)).trans Hr1.out)
  have Hr9:=Qh ((hz w.heap.size (by omega)).trans Hr0.out)
  have a0:w8.cell? ⟨w.heap.size,0,none⟩=some (.slice ao s.cks.length cap):=(cell_of_row _ _ 0 _ _ _ Hr9.out).trans rfl
  have a1:w8.cell? ⟨w.heap.size,1,none⟩=some (.int .i64 s.ses):=(cell_of_row _ _ 1 _ _ _ Hr9.out).trans rfl
  have a2:w8.cell? ⟨w.heap.size,2,none⟩=some (S s.str):=(cell_of_row _ _ 2 _ _ _ Hr9.out).trans rfl
  have Hrm:=Qh hrow
  have Hi3:=Qh (show (Tryz.prog.info? 40).map (·.size)=some 3 by kernel_rfl)
  have Ho8:=Qh (ho8.lower (show w.heap.size+2≤W2.heap.size by omega))
  have Hne:=Qh hne
  by_cases hbad:s.ses<1∨255<s.ses∨65536<c.length
  ·obtain ⟨J,hxJ,hokJ,hrJ,_⟩:=ho8.freeze hok8 (fun b hb=>hw.fresh (by omega))
   have HJ:=Qh (And.intro (hxJ.mono (show w.heap.size≤W2.heap.size by omega)) (And.intro hokJ hrJ))
   have hJ1:J (w.heap.size+1)=none:=by rw [hxJ _ (by omega)];exact hw.fresh (by omega)
   have d0:w8.cell? ⟨m,0,none⟩=some (.slice ao7 s.cks.length k7):=(cell_of_row _ _ 0 _ _ _ hrow).trans rfl
   have d1:w8.cell? ⟨m,1,none⟩=some (.int .i64 s.ses):=(cell_of_row _ _ 1 _ _ _ hrow).trans rfl
   have d2:w8.cell? ⟨m,2,none⟩=some (S s.str):=(cell_of_row _ _ 2 _ _ _ hrow).trans rfl
   have g0:=frozen_of_row w8 _ 0 _ _ Hr8.out
   have g1:=frozen_of_row w8 _ 1 _ _ Hr8.out
   have g2:=frozen_of_row w8 _ 2 _ _ Hr8.out
   have k0:w8.cell? ⟨w.heap.size+1,0,none⟩=some (.slice none 0 0):=(cell_of_row _ _ 0 _ _ _ Hr8.out).trans rfl
   have k1:w8.cell? ⟨w.heap.size+1,1,none⟩=some (.int .i64 0):=(cell_of_row _ _ 1 _ _ _ Hr8.out).trans rfl
   have k2:w8.cell? ⟨w.heap.size+1,2,none⟩=some (S []):=(cell_of_row _ _ 2 _ _ _ Hr8.out).trans rfl
   have hne1:m≠w.heap.size+1:=by omega
   have hne2:w.heap.size+1≠m:=by omega
   clear hz hGc hGa hgr hrow hne ho8 hbW hC hup hxJ hokJ hrJ c0 c1 c2 Hr0 Hr1 Hcl hok8 Hix Hs Ho8 Hne
   by_cases h1:s.ses<1
   ·have e1:decide (s.ses<1)=true:=Qt h1
    have Hn:=Qh (show putP s c=(s,[],1) by rw [putP,if_pos (.inl h1)])
    clear h1 hbad
    go_wp2
    refine bodyPost_ret (v:= .tuple #[stoV s (.slice ao7 s.cks.length k7),.slice none 0 0,.int .i64 1]) ?_ rfl ?_
    ·rw [Xa4 rfl]
     simp [asAddr,run_loadVar_row _ (w.heap.size+1) 40 40 #[.slice ao7 s.cks.length k7,.int .i64 s.ses,S s.str] (0,0) _ (Xck Hr8.out) Tryz.underlying40 rfl Hi3.out]
    ·rw [Hn.out]
     exact ⟨_,_,J,rfl,((hbb.setCell (p:=⟨w.heap.size+1,0,none⟩) (Nat.le_succ _) _).setCell (p:=⟨w.heap.size+1,1,none⟩) (Nat.le_succ _) _).setCell (p:=⟨w.heap.size+1,2,none⟩) (Nat.le_succ _) _,HJ.out.1,((HJ.out.2.1.setCell hJ1 _).setCell hJ1 _).setCell hJ1 _,HJ.out.2.2,RdS.nil _ _⟩
   have e1:decide (s.ses<1)=false:=Qf h1
   by_cases h2:255<s.ses
   ·have e2:decide (255<s.ses)=true:=Qt h2
    have Hn:=Qh (show putP s c=(s,[],1) by rw [putP,if_pos (.inr h2)])
    clear h1 h2 hbad
    go_wp2
    refine bodyPost_ret (v:= .tuple #[stoV s (.slice ao7 s.cks.length k7),.slice none 0 0,.int .i64 1]) ?_ rfl ?_
    ·rw [Xa4 rfl]
     simp [asAddr,run_loadVar_row _ (w.heap.size+1) 40 40 #[.slice ao7 s.cks.length k7,.int .i64 s.ses,S s.str] (0,0) _ (Xck Hr8.out) Tryz.underlying40 rfl Hi3.out]
    ·rw [Hn.out]
     exact ⟨_,_,J,rfl,((hbb.setCell (p:=⟨w.heap.size+1,0,none⟩) (Nat.le_succ _) _).setCell (p:=⟨w.heap.size+1,1,none⟩) (Nat.le_succ _) _).setCell (p:=⟨w.heap.size+1,2,none⟩) (Nat.le_succ _) _,HJ.out.1,((HJ.out.2.1.setCell hJ1 _).setCell hJ1 _).setCell hJ1 _,HJ.out.2.2,RdS.nil _ _⟩
   have e2:decide (255<s.ses)=false:=Qf h2
   have h3:65536<c.length:=by omega
   have e3:decide ((65536:Int)<(c.length:Int))=true:=Qt (by omega)
   have Hn:=Qh (show putP s c=(s,[],6) by rw [putP,if_neg (by omega),if_pos h3])
   clear h1 h2 h3 hbad
   go_wp2
   refine bodyPost_ret (v:= .tuple #[stoV s (.slice ao7 s.cks.length k7),.slice none 0 0,.int .i64 6]) ?_ rfl ?_
   ·rw [Xa4 rfl]
    simp [asAddr,run_loadVar_row _ (w.heap.size+1) 40 40 #[.slice ao7 s.cks.length k7,.int .i64 s.ses,S s.str] (0,0) _ (Xck Hr8.out) Tryz.underlying40 rfl Hi3.out]
   ·rw [Hn.out]
    exact ⟨_,_,J,rfl,((hbb.setCell (p:=⟨w.heap.size+1,0,none⟩) (Nat.le_succ _) _).setCell (p:=⟨w.heap.size+1,1,none⟩) (Nat.le_succ _) _).setCell (p:=⟨w.heap.size+1,2,none⟩) (Nat.le_succ _) _,HJ.out.1,((HJ.out.2.1.setCell hJ1 _).setCell hJ1 _).setCell hJ1 _,HJ.out.2.2,RdS.nil _ _⟩
  have e1:decide (s.ses<1)=false:=Qf (by omega)
  have e2:decide (255<s.ses)=false:=Qf (by omega)
  have e3:decide ((65536:Int)<(c.length:Int))=false:=Qf (by omega)
  have h1:1≤s.ses∧s.ses≤255∧c.length≤65536:=by omega
  obtain ⟨R,hR⟩:∃R,(segsP c).foldl putG (s,[])=R:=⟨_,rfl⟩
  have Hn:=Qh (show putP s c=(R.1,R.2,0) by rw [putP,if_neg (by omega),if_neg (by omega),hR])
  have HR:=Qh (show ((segsP c).drop 0).foldl putG (s,[])=R from hR)
  have Hsp:=Qh (fun w=>Xqe I c hc w)
  have Hform:=Qh (Xe5 (s:=c))
  have hsz:segSz ((segsP c).drop 0)≤65536:=by rw [List.drop_zero,Xdi];exact h1.2.2
  have hsl:(segsP c).length≤65536:=Nat.le_trans (Xk4 c) h1.2.2
  have HB:=Qh (show BdP L C 0 s [] from ⟨by omega,by omega,by have:=Hs.out.str;omega,by have:=Hs.out.cks;omega,Hs.out.cx,Qn _,fun _ h=>(by cases h)⟩)
  generalize segsP c=segs at HR Hsp Hform hsz hsl
  have Hfr:=Qh (fun b (hb:w.heap.size≤b)=>hw.fresh hb)
  clear hz hGc hGa hgr hrow hne ho8 hbW hC hup c0 c1 c2 Hr0 Hr1 Hcl hR hbad
  go_wp2_with fail
  refine (Hix.out _ hok8).mono ?_
  rintro e3' wi ⟨B,D,rfl,hBl,hmap,hmx,hbi⟩
  have hmap:=Qh hmap
  have hmx:=Qh hmx
  go_wp2_with fail
  refine (Xjn _).mono ?_
  rintro e4 wj ⟨rfl,rfl⟩
  have hsz8:=hbi.size
  have hsz8':=hbb.size
  have hmlt:=(Array.getElem?_eq_some_iff.1 Hrm.out).1
  have HM0:=Qh (show PgM w.heap.size m B wi.heap.size #[.slice ao s.cks.length cap,.int .i64 s.ses,S s.str] w I (wi.alloc (.cells #[.slice none 0 0] 79)) s s.cks [] (.slice ao7 s.cks.length k7) (.slice none 0 0) s.cks.length from by
   refine ⟨(Below.heap_alloc _ _ _ (by omega)).trans ((hbi.block _ hmlt).trans Hrm.out),(Below.heap_alloc _ _ _ (by have:=(Array.getElem?_eq_some_iff.1 Hr9.out).1;omega)).trans ((hbi.block _ (Array.getElem?_eq_some_iff.1 Hr9.out).1).trans Hr9.out),(Below.heap_alloc _ _ _ (by have:=(Array.getElem?_eq_some_iff.1 Hr8.out).1;omega)).trans ((hbi.block _ (Array.getElem?_eq_some_iff.1 Hr8.out).1).trans Hr8.out),⟨D,hmap.out.alloc _,hmx.out⟩,heap_alloc_new wi _,(Ho8.out.below hbi).alloc _,OwnS.nil _ _ _ _ _,(hok8.below (Qn _) hbi).alloc _,fun b hb=>Hfr.out b ?_,fun g hg=>Hfr.out g (by have:=(Xal Ho8.out hg).1;omega),fun g hg=>(by cases hg),hm,by omega,by omega,?_,Qn _,(hbb.trans (hbi.mono hsz8')).alloc (by omega) _⟩
   ·rcases hb with rfl|rfl|rfl|rfl|rfl<;>omega
   ·have:=hmap.out.lt;simp;omega)
  clear hmap hmx hBl hbi hbb Ho8 Hne Hrm Hr8 Hr9 hok8 a0 a1 a2 hmlt hsz8 hsz8' Hix
  generalize hbo:wi.heap.size=bo at HM0 ⊢
  generalize (wi.alloc (.cells #[.slice none 0 0] 79))=w5 at HM0 ⊢
  clear hbo
  go_wp2_with fail
  refine (Hsp.out _).mono ?_
  rintro e6 w6 ⟨vs,rfl,hos,hb6⟩
  obtain ⟨J0,hx0,hok0,hrs,_⟩:=hos.freeze (HM0.out.ok.below (Qn _) hb6) (fun b hb=>HM0.out.ok.fresh hb)
  have HM1:=Qh (HM0.out.ext hb6 hx0 hok0)
  have Hx0:=Qh (hx0.mono HM0.out.bel.size)
  have Hrs:=Qh hrs
  have hsl2:=hrs.len_le
  have hckn2:=Hs.out.cks
  obtain ⟨as',cs',rfl,_,_,_⟩:=id hrs
  clear HM0 Hsp hos hb6 hx0 hok0 hrs Hs
  go_wp2_with fail
  go_loopw [48] (fun s48 wr=> ∃(k mc nn:Nat) (q:Sto) (l:List Xt) (vk ve:Value) (J:IH),k≤segs.length∧s48= .int .i64 k∧(segs.drop k).foldl putG (q,l)=R∧BdP L C mc q l∧mc+segSz (segs.drop k)≤65536∧nn≤C+mc∧PgM w.heap.size m B bo #[.slice ao s.cks.length cap,.int .i64 s.ses,S s.str] w J wr q q.cks l vk ve nn∧q.ses=s.ses∧RdS tSg J (.slice as' segs.length cs') segs∧Ext w.heap.size I J) (fun i _=>segs.length-(intOf i).toNat)
  case atStart=>exact ⟨0,0,_,s,[],_,_,J0,Nat.zero_le _,rfl,HR.out,HB.out,by omega,hckn2,HM1.out,rfl,Hrs.out,Hx0.out⟩
  case round=>
   clear HM1 HR HB Hx0 Hrs
   obtain ⟨k,mc,nn,q,l,vk,ve,J,hk,rfl,hr,hbd,hms,hnn,hM,hqs,hrs,hx⟩:=hrel
   have Hr:=Qh hr
   have HBd:=Qh hbd
   have HM:=Qh hM
   have Hrs:=Qh hrs
   have Hx:=Qh hx
   have hok:Ok J wr:=hM.ok
   have hlen:=hbd.len
   have hsw:=hM.bel.size
   clear hr hbd hM hrs hx
   by_cases hlt:k<segs.length
   ·obtain ⟨g,b,off,cap',hlg,hvv,x0,x1⟩:=sgAt Hrs.out hok k hlt
    cases hvv
    have Hgf:=Qh (Hform.out g (by rw [←hlg];exact List.getElem_mem hlt))
    have hsd:segSz (segs.drop k)=g.n.toNat+g.d.length+segSz (segs.drop (k+1)):=by rw [List.drop_eq_getElem_cons hlt,hlg,Xcy]
    have Hst:=Qh (Xjb hlt hlg Hr.out)
    rw [hsd] at hms
    have HMa:=Qh (HM.out.past (.cells #[.int .i64 g.n,S g.d] 168))
    have hoka:Ok J (wr.alloc (.cells #[.int .i64 g.n,S g.d] 168)):=hok.alloc _
    clear hsd hlg Hr HM
    by_cases hdd:g.d= []
    ·have hg0:0<g.n:=by rcases Hgf.out with ⟨_,h⟩|⟨h,_⟩;exact absurd hdd h;exact h
     obtain ⟨p1,p2,p3,p4⟩:=Xdx hdd
     have hgl:g.d.length=0:=by rw [hdd];rfl
     have hxb:XB 65536 ⟨0,0,g.n⟩:=by unfold XB;simp only;omega
     have Hn2:=Qh (show (segs.drop (k+1)).foldl putG (q,addX l ⟨0,0,g.n⟩)=R by have:=Hst.out;rwa [putG,if_pos hdd] at this)
     have HB2:=Qh (HBd.out.add hxb)
     have hxs:=fun z hz=>(HBd.out.xs z hz).mono (show (65536*mc:Int)≤1099511627776 by omega)
     have hxb2:=hxb.mono (show (65536:Int)≤1099511627776 by omega)
     clear hdd Hst
     go_wp2_with fail
     refine (Xpg J bo (w.heap.size+2) _ _ ⟨0,0,g.n⟩ _ HMa.out.ox HMa.out.rb (by have:=HMa.out.lt;omega) (by omega) hxs hxb2).mono ?_
     rintro e9 w9 ⟨u9,v9,rfl,hr9,ho9,hg9,hl9⟩
     have HM9:=Qh (HMa.out.coll hr9 ho9 hg9 hl9)
     clear hr9 ho9 hg9 hl9
     go_wp2
     go_roundw
     case rel=>exact ⟨k+1,mc+1,nn,q,_,_,_,J,by omega,by go_num,Hn2.out,HB2.out,by omega,by omega,HM9.out,hqs,Hrs.out,Hx.out⟩
     case measure=>simp [intOf];omega
    ·obtain ⟨p1,p2,p3,p4⟩:=Xdr hdd
     have hcl:=Xeb g.d
     have Hcm:=Qh (fun x (hx:x∈chunksP g.d)=>show x.length≤65536 by have:=Xc7 hx;rw [Xf1] at this;omega)
     have Hst2:=Qh (show (segs.drop (k+1)).foldl putG (((chunksP g.d).drop 0).foldl putO (q,l))=R by have:=Hst.out;rwa [putG,if_neg hdd] at this)
     have Hsp:=Qh (fun w=>Xrk J g.d (by omega) w)
     obtain ⟨Q,hQ⟩:∃Q,((chunksP g.d).drop 0).foldl putO (q,l)=Q:=⟨_,rfl⟩
     have HQ:=Qh hQ
     rw [hQ] at Hst2
     have hms2:mc+(chunksP g.d).length+segSz (segs.drop (k+1))≤65536:=by omega
     generalize chunksP g.d=cs at hcl Hcm HQ Hsp hms2
     clear hdd hQ Hst hms
     go_wp2_with fail
     refine (Hsp.out _).mono ?_
     rintro e3 w3 ⟨v3,rfl,ho3,hb3⟩
     obtain ⟨J3,hx3,hok3,hrc,_⟩:=ho3.freeze (hoka.below (Qn _) hb3) (fun b hb=>hoka.fresh hb)
     have HM3:=Qh (HMa.out.ext hb3 hx3 hok3)
     have Hx3:=Qh (Hx.out.trans hx3 (by simp;omega))
     have Hrs3:=Qh (Hrs.out.mono (hx3.keep hoka (Qn _)))
     have Hrc:=Qh hrc
     have hrl:=hrc.len_le
     obtain ⟨ac,cc,rfl,_,_,_⟩:=id hrc
     have HB3:=HBd
     clear ho3 hb3 hx3 hok3 hrc HMa HBd Hx Hrs x0 x1 hlen hok hoka
     go_wp2_with fail
     go_loopw [64] (fun s64 wr=> ∃(j mc nn:Nat) (q:Sto) (l:List Xt) (vk ve:Value) (J:IH),j≤cs.length∧s64= .int .i64 j∧(cs.drop j).foldl putO (q,l)=Q∧BdP L C mc q l∧mc+(cs.length-j)+segSz (segs.drop (k+1))≤65536∧nn≤C+mc∧PgM w.heap.size m B bo #[.slice ao s.cks.length cap,.int .i64 s.ses,S s.str] w J wr q q.cks l vk ve nn∧q.ses=s.ses∧RdS tSg J (.slice (some ⟨b,off,none⟩) segs.length cs') segs∧RdS tStr J (.slice ac cs.length cc) cs∧Ext w.heap.size I J) (fun i _=>cs.length-(intOf i).toNat)
     case atStart=>exact ⟨0,mc,nn,q,l,_,_,J3,Nat.zero_le _,rfl,HQ.out,HB3.out,by omega,hnn,HM3.out,hqs,Hrs3.out,Hrc.out,Hx3.out⟩
     case round=>
      clear HM3 HQ HB3 Hx3 Hrs3 Hrc hms2 hnn hqs
      obtain ⟨j,mc,nn,q,l,vk,ve,J,hj,rfl,hr,hbd,hms,hnn,hM,hqs,hrs,hrc,hx⟩:=hrel
      have Hr:=Qh hr
      have HBd:=Qh hbd
      have HM:=Qh hM
      have Hrs:=Qh hrs
      have Hrc:=Qh hrc
      have Hx:=Qh hx
      have Hqs:=Qh hqs
      have hok:Ok J wr:=hM.ok
      obtain ⟨ak,ck,rfl⟩:=Xb9 hM.ck
      have hlen:=hbd.len
      have hckl:=hbd.cks
      have hstl:=hbd.str
      clear hr hbd hM hrs hx hrc hqs
      by_cases hjt:j<cs.length
      ·obtain ⟨x,bz,offz,capz,hlz,hvv,x0⟩:=Xnt Hrc.out hok j hjt
       cases hvv
       have hxm:x.length≤65536:=Hcm.out x (by rw [←hlz];exact List.getElem_mem hjt)
       have Hst:=Qh (Xjb hjt hlz Hr.out)
       have HMa:=Qh (HM.out.past (.cells #[S x] 9))
       have Hsum:=Qh (Xj5 wr.heap.size x (by omega) (wr.alloc (.cells #[S x] 9)) (by simp) (by simp))
       have hdl:=Xdh x
       obtain ⟨dg,hdg⟩:∃dg,sumP x=dg:=⟨_,rfl⟩
       have Hhit:=Qh (fun y (h:findX q.cks (sumP x)=some y)=>Xoc (l:=l) h)
       have Hnew:=Qh (fun (h:findX q.cks (sumP x)=none)=>Xob (l:=l) h)
       rw [hdg] at Hsum Hhit Hnew hdl
       clear hlz Hr HM hdg
       go_wp2_with fail
       refine Hsum.out.mono ?_
       rintro e5 w5 ⟨rfl,hb5⟩
       have HM5:=Qh (HMa.out.below hb5)
       clear x0 hb5 HMa Hsum hok
       obtain ⟨D,hD1,hD2⟩:=HM5.out.rm
       have hlk:=Xuf hD1 hD2 (p:=dg) (by omega)
       have hxs:=fun z hz=>(HBd.out.xs z hz).mono (show (65536*mc:Int)≤1099511627776 by omega)
       have Hfd:=Qh (show findR q.cks dg=match findX q.cks dg with|some x=>(x,true)|none=>(⟨0,0,0⟩,false) from rfl)
       have Hmm:=Qh (fun y (h:findX q.cks dg=some y)=>Xfu h)
       cases hfx:findX q.cks dg with
       |some y=>
        rw [hfx] at Hfd
        rw [Hfd.out] at hlk
        have hyb:XB 65536 y:=by
         obtain ⟨z,hz,rfl⟩:=Hmm.out y hfx
         exact HBd.out.cx z hz
        have hyb2:=hyb.mono (show (65536:Int)≤1099511627776 by omega)
        have Hn2:=Qh (show (cs.drop (j+1)).foldl putO (q,addX l y)=Q by have:=Hst.out;rwa [Hhit.out y hfx] at this)
        have HB2:=Qh (HBd.out.add hyb)
        have HM6:=Qh (HM5.out.past (.cells #[.int .i64 y.s,.int .i64 y.o,.int .i64 y.n] 109))
        clear hfx Hfd Hmm Hhit Hnew Hst hD1 hD2
        go_wp2_with fail
        refine (Xpg J bo (w.heap.size+2) _ _ y _ HM6.out.ox HM6.out.rb (by have:=HM6.out.lt;omega) (by omega) hxs hyb2).mono ?_
        rintro e9 w9 ⟨u9,v9,rfl,hr9,ho9,hg9,hl9⟩
        have HM9:=Qh (HM6.out.coll hr9 ho9 hg9 hl9)
        clear hr9 ho9 hg9 hl9
        go_wp2
        go_roundw
        case rel=>exact ⟨j+1,mc+1,nn,q,_,_,_,J,by omega,by go_num,Hn2.out,HB2.out,by omega,by omega,HM9.out,Hqs.out,Hrs.out,Hrc.out,Hx.out⟩
        case measure=>simp [intOf];omega
       |none=>
        rw [hfx] at Hfd
        rw [Hfd.out] at hlk
        have Hn2:=Qh (show (cs.drop (j+1)).foldl putO (⟨q.cks++ [⟨dg,newX q x⟩],q.ses,q.str++x⟩,addX l (newX q x))=Q by have:=Hst.out;rwa [Hnew.out hfx] at this)
        have HB2:=Qh (HBd.out.grow' hL (by omega) hxm (dg:=dg))
        have hnb:=Xhp HBd.out hL (by omega) hxm
        have hnb2:=hnb.mono (show (65536:Int)≤1099511627776 by omega)
        have hMx:=Xlf hD2 hD1.isMap (c:=⟨dg,newX q x⟩) hfx
        have HMx:=Qh hMx
        have Hkey:=Qh (mkey dg (by omega))
        have HM6:=Qh (HM5.out.past (.cells #[.int .i64 q.ses,.int .i64 (q.str.length:Nat),.int .i64 (x.length:Nat)] 109))
        have HD6:=Qh (hD1.alloc (.cells #[.int .i64 q.ses,.int .i64 (q.str.length:Nat),.int .i64 (x.length:Nat)] 109))
        have r5:=cell_of_row w5 m 2 _ _ _ HM5.out.ro
        have c2:w5.cell? ⟨m,2,none⟩=some (S q.str):=r5.trans rfl
        have n1:w5.cell? ⟨w.heap.size,1,none⟩=some (.int .i64 s.ses):=(cell_of_row w5 w.heap.size 1 _ _ _ HM5.out.r0).trans rfl
        have n1q:w5.cell? ⟨w.heap.size,1,none⟩=some (.int .i64 q.ses):=by rw [Hqs.out];exact n1
        have z1:=Xad (.cells #[.int .i64 0,.int .i64 0,.int .i64 0] 109) n1q
        have z2:=Xad (.cells #[.int .i64 0,.int .i64 0,.int .i64 0] 109) c2
        have hlm:=HM5.out.lt
        have hneN:w.heap.size≠w5.heap.size:=by omega
        have hneM:m≠w5.heap.size:=by omega
        clear hfx Hfd Hmm Hhit Hnew Hst hD1 hD2 hMx r5 n1
        have Hxb6:=Qh (heap_alloc_new w5 (.cells #[.int .i64 q.ses,.int .i64 (q.str.length:Nat),.int .i64 (x.length:Nat)] 109))
        have hB5:=HM5.out.hB
        have hnw:=HM5.out.bel.size
        obtain ⟨bx,hbx⟩:∃bx,w5.heap.size=bx:=⟨_,rfl⟩
        rw [hbx] at Hxb6 hneN hneM hB5 hnw
        have hbo5:=HM5.out.lt.2.1
        rw [hbx] at hbo5
        have hJx:J bx=none:=by rw [←hbx];exact HM5.out.ok.fresh (Qn _)
        go_wp2_with (first
         |(at_mapUpdate;refine wpList_mapUpdate_own _ rfl _ _ _ 195 rfl 9 109 mlaw Tryz.underlying195 xElem B nn D rfl HD6.out (by unfold maxLen;omega) _ _ _ rfl rfl Hkey.out _ [] (Xha (newX q x)) ?_)
         |go_in)
        intro w7 ho7 hg7
        have HM7:=Qh (HM6.out.mapped hg7 ho7 HMx.out)
        have hxb7:=(hg7.block bx (by simp;omega) (fun e=>by cases e;omega)).trans Hxb6.out
        have Hxb7:=Qh hxb7
        have y0:w7.cell? ⟨bx,0,none⟩=some (.int .i64 q.ses):=(cell_of_row w7 _ 0 _ _ _ hxb7).trans rfl
        have y1:w7.cell? ⟨bx,1,none⟩=some (.int .i64 (q.str.length:Nat)):=(cell_of_row w7 _ 1 _ _ _ hxb7).trans rfl
        have y2:w7.cell? ⟨bx,2,none⟩=some (.int .i64 (x.length:Nat)):=(cell_of_row w7 _ 2 _ _ _ hxb7).trans rfl
        have m0:w7.cell? ⟨m,0,none⟩=some (.slice ak q.cks.length ck):=(cell_of_row w7 _ 0 _ _ _ HM7.out.ro).trans rfl
        have g0:=frozen_of_row w7 _ 0 _ _ HM7.out.ro
        have hvk:=HM7.out.vk_ne.1
        have hsz7:=HM7.out.lt
        clear HM6 HD6 HMx Hkey ho7 hg7 hxb7 z1 z2 c2 n1q Hxb6
        go_wp2_with (at_builtin;go_loud (refine Xa7 (w0:=w7) Xty rfl _ _ rfl (w.heap.size+2) _ q.cks rfl HM7.out.ck ⟨dg,newX q x⟩ [S dg,.int .i64 q.ses,.int .i64 (q.str.length:Nat),.int .i64 (x.length:Nat)] _ (by first|rfl|simp [Act.eval]) rfl (by omega) (by omega) (by omega) ?_))
        intro v9 w9 hown9 hg9 hl9
        obtain ⟨a9,n9,k9,rfl⟩:=Xcp hown9
        have co9:=Xaf hg9 hvk m0
        have fo9:=Xca hg9 hvk m0 g0
        have HM9:=Qh (HM7.out.added (q':=⟨q.cks++ [⟨dg,newX q x⟩],q.ses,q.str⟩) hown9 hg9 hl9 rfl rfl)
        have hxb9:=(heap_setCell_other w9 ⟨m,0,none⟩ bx (.slice a9 n9 k9) (by show bx≠m;omega)).trans ((hg9.block bx (Array.getElem?_eq_some_iff.1 Hxb7.out).1 (fun e=>Xbg HM7.out.ck Hxb7.out (by decide) e.symm)).trans Hxb7.out)
        have s2:(w9.setCell ⟨m,0,none⟩ (.slice a9 n9 k9)).cell? ⟨m,2,none⟩=some (S q.str):=(cell_of_row _ _ 2 _ _ _ HM9.out.ro).trans rfl
        have t2:=frozen_of_row _ _ 2 _ _ HM9.out.ro
        have HM10:=Qh (HM9.out.wrote (q.str++x))
        have hxb10:=(heap_setCell_other _ ⟨m,2,none⟩ bx (S (q.str++x)) (by show bx≠m;omega)).trans hxb9
        have x0:=(cell_of_row _ _ 0 _ _ _ hxb10).trans rfl
        have x1:=(cell_of_row _ _ 1 _ _ _ hxb10).trans rfl
        have x2:=(cell_of_row _ _ 2 _ _ _ hxb10).trans rfl
        have hst2:¬9223372036854775807<q.str.length+x.length:=by omega
        clear HM7 y0 y1 y2 m0 g0 hown9 hg9 hl9 hxb9 hxb10 Hxb7
        go_wp2_with fail
        refine (Xpg J bo (w.heap.size+2) _ _ (newX q x) _ HM10.out.ox HM10.out.rb (by have:=HM10.out.lt;omega) (by omega) hxs hnb2).mono ?_
        rintro e11 w11 ⟨u11,v11,rfl,hr11,ho11,hg11,hl11⟩
        have HM11:=Qh (HM10.out.coll hr11 ho11 hg11 hl11)
        clear hr11 ho11 hg11 hl11 s2 t2 x0 x1 x2 co9 fo9
        go_wp2
        go_roundw
        case rel=>exact ⟨j+1,mc+1,nn+1,_,_,_,_,J,by omega,by go_num,Hn2.out,HB2.out,by omega,by omega,HM11.out,Hqs.out,Hrs.out,Hrc.out,Hx.out⟩
        case measure=>simp [intOf];omega
      ·have hjl:j=cs.length:=by omega
       have Hn2:=Qh (show (q,l)=Q by have:=Hr.out;rwa [List.drop_of_length_le (by omega)] at this)
       have Hst3:=Qh (show (segs.drop (k+1)).foldl putG (q,l)=R by rw [Hn2.out];exact Hst2.out)
       clear Hr Hst2
       go_wp2
       go_roundw
       case rel=>exact ⟨k+1,mc,nn,q,l,_,_,J,by omega,by go_num,Hst3.out,HBd.out,by omega,by omega,HM.out,Hqs.out,Hrs.out,Hx.out⟩
       case measure=>simp [intOf];omega
   ·have hkl:k=segs.length:=by omega
    have Hn2:=Qh (show R=(q,l) by have:=Hr.out;rw [List.drop_of_length_le (by omega)] at this;exact this.symm)
    obtain ⟨ak,ck,rfl⟩:=Xb9 HM.out.ck
    obtain ⟨ae,ce,rfl⟩:=Xb9 HM.out.ox
    have z0:wr.cell? ⟨m,0,none⟩=some (.slice ak q.cks.length ck):=(cell_of_row wr _ 0 _ _ _ HM.out.ro).trans rfl
    have z1:wr.cell? ⟨m,1,none⟩=some (.int .i64 q.ses):=(cell_of_row wr _ 1 _ _ _ HM.out.ro).trans rfl
    have z2:wr.cell? ⟨m,2,none⟩=some (S q.str):=(cell_of_row wr _ 2 _ _ _ HM.out.ro).trans rfl
    have zb:wr.cell? ⟨bo,0,none⟩=some (.slice ae l.length ce):=(cell_of_row wr _ 0 _ _ _ HM.out.rb).trans rfl
    obtain ⟨J1,k1a,k1b,k1c,k1d,k1e⟩:=HM.out.ck.freezeA HM.out.ok HM.out.fk
    have hve:∀g,(Value.slice ae l.length ce).ownBlock=some g→J1 g=none:=fun g hg=>by
     rw [k1e g (fun e=>by rcases HM.out.kv with h|h; ·rw [h] at e;cases e
                          ·exact h (by rw [e,hg]))]
     exact HM.out.fe g hg
    obtain ⟨J2,k2a,k2b,k2c,k2d,k2e⟩:=(HM.out.ox.mono k1a).freezeA k1c hve
    have hJ2:J2 (w.heap.size+1)=none:=by
     rw [k2e _ (HM.out.ve_ne.2.2.2 _ (by omega)),k1e _ (HM.out.vk_ne.2.2.2 _ (by omega))]
     exact HM.out.fn _ (by simp)
    have HJ:=Qh (And.intro ((Hx.out.trans (k1b.mono (show w.heap.size≤w.heap.size+2 by omega)) (Qn _)).trans (k2b.mono (show w.heap.size≤w.heap.size+2 by omega)) (Qn _)) (And.intro k2c (And.intro (k1d.mono k2a) k2d)))
    clear k1a k1b k1c k1d k1e k2a k2b k2c k2d k2e hve Hr hok hlen
    go_wp2_with fail
    refine Xak (X:=Nat × Nat) (pvL w.heap.size m bo ak q.cks.length ck q.ses q.str ((.slice ae l.length ce))) (RgC wr 209 210 (fun _ _=>True) (fun _ _=>True) (fun x=>w.heap.size+1) 40 3 207 208 (fun x=> #[.slice ak q.cks.length ck,.int .i64 q.ses,S q.str]) (fun x=> #[.slice ak q.cks.length ck,.int .i64 q.ses,S q.str]) (fun x=> #[.slice ak q.cks.length ck,.int .i64 q.ses,S q.str])) (by kernel_rfl) (by kernel_rfl) ?_ ?_ ?_
    ·exact ⟨(0,default),RgC.start _ _⟩
    ·rintro x s' a' w' i hsz hcl ha hC hi
     obtain ⟨hun,oi,hoi,hall⟩:=mem_ready.1 hi
     rcases i with _|_|_|_|_|_|i
     rotate_left 6
     ·simp at hoi
     all_goals
      have hoj:=hoi
      simp at hoi
      subst hoi
      simp [Region.binds] at hall
     ·have e7:a'.tmps[7]?.getD undef= .pointer (some ⟨m,0,none⟩):=Xbe ha (by simp)
      have hl:s'.getD 3 false=false:=Xae hcl [0] (by kernel_rfl) (by rfl) hun
      have cq:=Xaa (hC.off hl) z0
      have cr:=Xaa (hC.off hl) z1
      have cs:=Xaa (hC.off hl) z2
      refine wpOp_step hoj (fun K' hK=> ?_)
      rw [if_pos (by rfl)]
      unfold Oper.wp
      simp [go_sem,e7,cq,cr,cs,Oper.upon]
      exact hK _ _ ⟨x,Xac (d:=some 108) (v:= .agg #[.slice ak q.cks.length ck,.int .i64 q.ses,S q.str]) Xbi ha rfl hun,hC.pure (by decide) (by decide) (by decide) (by decide) (by decide)⟩
     ·have e10:a'.tmps[10]?.getD undef= .func (.func 196) #[] #[.pointer (some ⟨bo,0,none⟩)]:=Xbe ha (by simp)
      refine wpOp_step hoj (fun K' hK=> ?_)
      rw [if_pos (by rfl)]
      unfold Oper.wp
      simp [go_sem,e10,Oper.upon]
      exact hK _ _ ⟨x,Xac (d:=some 109) (v:= .func (.func 196) #[] #[.pointer (some ⟨bo,0,none⟩)]) Xbi ha rfl hun,hC.pure (by decide) (by decide) (by decide) (by decide) (by decide)⟩
     ·have e109:a'.tmps[109]?.getD undef= .func (.func 196) #[] #[.pointer (some ⟨bo,0,none⟩)]:=Xap (i:=1) Xbi ha rfl (by first|simpa using hall|simp [hall]) (by simp)
      have hl:s'.getD 3 false=false:=Xae hcl [2] (by kernel_rfl) (by rfl) hun
      have ct:=Xaa (hC.off hl) zb
      refine wpOp_step hoj (fun K' hK=> ?_)
      rw [if_pos (by rfl)]
      unfold Oper.wp
      simp [go_sem,e109,Oper.upon]
      refine (Xtq bo _ w' ct).mono ?_
      rintro r4 w4 ⟨rfl,rfl⟩
      exact hK _ _ ⟨x,Xac (d:=some 110) (v:=(.slice ae l.length ce)) Xbi ha rfl hun,hC.pure (by decide) (by decide) (by decide) (by decide) (by decide)⟩
     ·have e4:a'.tmps[4]?.getD undef= .pointer (some ⟨w.heap.size+1,0,none⟩):=Xbe ha (by simp)
      have e108:a'.tmps[108]?.getD undef= .agg #[.slice ak q.cks.length ck,.int .i64 q.ses,S q.str]:=Xap (i:=0) Xbi ha rfl (by first|simpa using hall|simp [hall]) (by simp)
      refine wpOp_step hoj (fun K' hK=> ?_)
      rw [if_pos (by rfl)]
      have hlo:s'.getD 3 false=false:=Xam hun
      have hrow:w'.heap[w.heap.size+1]? =some (.cells _ 40 (0,0)):=(by exact ((hC.off hlo).block _ (Array.getElem?_eq_some_iff.1 HM.out.r1).1).trans HM.out.r1)
      refine Xag 40 _ _ rfl (w.heap.size+1) 0 [.slice ak q.cks.length ck,.int .i64 q.ses,S q.str] (.agg #[.slice ak q.cks.length ck,.int .i64 q.ses,S q.str]) (by simp [Act.eval,e4,e108]) (by simp [Act.eval,e4,e108]) (by rfl) _ _ hrow (by simp) (by kernel_rfl) (by simp [Value.oneCell']) ?_
      exact hK _ _ ⟨x,Xac (d:=none) (v:=undef) Xbi ha rfl hun,hC.put1 hun trivial trivial (Xan (by simp [hsz])) (Xan (by simp [hsz])) (by decide) hrow (by rfl)⟩
     ·have e110:a'.tmps[110]?.getD undef=(.slice ae l.length ce):=Xap (i:=2) Xbi ha rfl (by first|simpa using hall|simp [hall]) (by simp)
      refine wpOp_step hoj (fun K' hK=> ?_)
      rw [if_pos (by rfl)]
      unfold Oper.wp
      simp [go_sem,e110,Oper.upon]
      exact hK _ _ ⟨x,Xac (d:=some 5) (v:=(.slice ae l.length ce)) Xbi ha rfl hun,hC.pure (by decide) (by decide) (by decide) (by decide) (by decide)⟩
     ·refine wpOp_step hoj (fun K' hK=> ?_)
      rw [if_pos (by rfl)]
      unfold Oper.wp
      simp [go_sem,Oper.upon]
      exact hK _ _ ⟨x,Xac (d:=some 6) (v:= .int .i64 0) Xbi ha rfl hun,hC.pure (by decide) (by decide) (by decide) (by decide) (by decide)⟩
    ·rintro x s' a' w8 hup ha hC
     obtain ⟨wb,hbW,hGc,hGa,hgr,hrow⟩:=hC.on (hup 3 (by decide))
     simp only [ite_self] at hrow
     rw [Xa6 _ _ _ _ (fun i hi=>by rw [Nat.zero_add];exact hup i (by simpa using hi))] at ha
     subst ha
     simp only [fillAll,Act.put]
     have hbb:Below w.heap.size w w8:=(HM.out.bel.trans (hbW.mono hsw)).grown hgr (by have:=hbW.size;omega) (fun g e=>by cases e;omega)
     have hok8:Ok J2 w8:=(HJ.out.2.1.below (Qn _) hbW).grown hgr (fun g e=>by cases e;exact hJ2)
     go_wp2
     refine bodyPost_ret (v:= .tuple #[stoV q (.slice ak q.cks.length ck),.slice ae l.length ce,.int .i64 0]) ?_ rfl ?_
     ·rw [Xa4 rfl]
      simp [asAddr,run_loadVar_row _ (w.heap.size+1) 40 40 #[.slice ak q.cks.length ck,.int .i64 q.ses,S q.str] (0,0) _ hrow Tryz.underlying40 rfl Hi3.out]
     ·rw [Hn.out,Hn2.out]
      exact ⟨_,_,J2,rfl,hbb,HJ.out.1,hok8,HJ.out.2.2.1,HJ.out.2.2.2⟩
end Go.Proofs.YtmdfjnhfhidmhaaGreatDoor
