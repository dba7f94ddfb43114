/- Lemmas; conditions: as each says. -/
import Derived.Test.YtdodihnehppnmaaGreatDoorTO39
import Derived.Test.YtdodihnehppnmaaGreatDoorTO37
import Derived.ProofKit
import Derived.Deep.Slices
import Derived.Lib.LaidTab
import Derived.LaidMore
import Derived.Lay
import Derived.Stop.Joined
import Derived.Stop.LaidErr
set_option linter.all false
namespace Go.Proofs.YtdodihnehppnmaaGreatDoor
open Go.RowKit
def right41 (l:List Ses):Bool:= !gr41 l&&chkH l==0
def right41I (l:List Ses):Int:=if right41 l then 1 else 0
theorem Xiz {l:List Ses} (hw:∀x∈l,x.Wf) (h:right41 l=true):(l.length≤8∧(∀x∈l,SesG x)∧wtL l≤20000)∧chkH l=0:=by
 unfold right41 at h
 rw [Bool.and_eq_true] at h
 exact ⟨Xnp hw (by simpa using h.1),by simpa using h.2⟩
set_option maxRecDepth 100000 in
set_option maxHeartbeats 1000000 in
theorem Xhn (I:IH) (v:Value) (l:List Ses) (hv:RdS tSes I v l) (hwf:∀x∈l,x.Wf) (w:World) (hw:Ok I w):
 Calls Tryz.prog 16 #[v] w fun r w'=>r= .returned (.int .i64 (right41I l))∧Below w.heap.size w w':=by
 have Hgr:=Qh (Xm1 I v l hv hwf w hw)
 have Hck:=Qh (fun (h:gr41 l=false) w hw=>Xm2 I v l hv (Xnp hwf h).2.1 (by have:=(Xnp hwf h).1;omega) w hw)
 obtain ⟨ao,cap,rfl,_,_,_⟩:=id hv
 clear hv hwf
 cases hg:gr41 l
 ·have Hc:=Qh (Hck.out hg)
  have Hn:=Qh (show right41 l=(chkH l==0) by rw [right41,hg];rfl)
  rw [show gr41I l=0 by rw [gr41I,hg];rfl] at Hgr
  obtain ⟨E,hE⟩:∃E,chkH l=E:=⟨_,rfl⟩
  rw [hE] at Hn Hc
  clear hg hE Hck
  by_cases h0:E=0
  ·have Hn2:=Qh (show right41 l=true by rw [Hn.out,h0];rfl)
   subst h0
   go_enter Tryz.func16,Tryz.ntmps16
   go_wp2_with fail
   refine Hgr.out.mono ?_
   rintro e1 w1 ⟨rfl,hb1⟩
   have hok1:=hw.below (Qn _) hb1
   go_wp2_with fail
   refine (Hc.out w1 hok1).mono ?_
   rintro e2 w2 ⟨rfl,hb2⟩
   go_wp2
   go_ret
   exact ⟨Xac (by rw [right41I,Hn2.out];rfl),hb1.trans (hb2.mono hb1.size)⟩
  ·have Hn2:=Qh (show right41 l=false by rw [Hn.out];simpa using h0)
   have he:(E != 0)=true:=by simpa using h0
   clear h0
   go_enter Tryz.func16,Tryz.ntmps16
   go_wp2_with fail
   refine Hgr.out.mono ?_
   rintro e1 w1 ⟨rfl,hb1⟩
   have hok1:=hw.below (Qn _) hb1
   go_wp2_with fail
   refine (Hc.out w1 hok1).mono ?_
   rintro e2 w2 ⟨rfl,hb2⟩
   go_wp2
   go_ret
   exact ⟨Xac (by rw [right41I,Hn2.out];rfl),hb1.trans (hb2.mono hb1.size)⟩
 ·have Hn:=Qh (show right41 l=false by rw [right41,hg];rfl)
  rw [show gr41I l=1 by rw [gr41I,hg];rfl] at Hgr
  clear hg Hck
  go_enter Tryz.func16,Tryz.ntmps16
  go_wp2_with fail
  refine Hgr.out.mono ?_
  rintro e1 w1 ⟨rfl,hb1⟩
  go_wp2
  go_ret
  exact ⟨Xac (by rw [right41I,Hn.out];rfl),hb1⟩
set_option maxRecDepth 100000 in
set_option maxHeartbeats 4000000 in
theorem Xis (I:IH) (hI:Glob I) (v:Value) (l:List Ses) (hv:RdS tSes I v l) (hwf:∀x∈l,x.Wf) (d:Int) (w:World) (hw:Ok I w):
 Calls Tryz.prog 4 #[v,.int .i64 d] w fun r w'=>r= .returned (.bool true)∧Below w.heap.size w w':=by
 have Hal:=Qh (fun w hw=>Xhz I hI w hw)
 have Hri:=Qh (fun w hw=>Xhn I v l hv hwf w hw)
 have A0:=Qh (MAt.start hw)
 cases hg:right41 l
 case false=>
  have e1:right41I l=0:=by rw [right41I,hg];rfl
  rw [e1] at Hri
  obtain ⟨ao,cap,rfl,_,_,_⟩:=id hv
  clear e1 hg hv
  go_enter Tryz.func4,Tryz.ntmps4
  go_wp2_with fail
  refine (Hri.out _ A0.out.ok).mono ?_
  rintro e1 w1 ⟨rfl,hb1⟩
  have A1:=Qh (A0.out.quiet hb1)
  clear hb1 A0
  go_wp2_with fail
  refine (Hal.out _ A1.out.ok).mono ?_
  rintro e2 w2 ⟨rfl,hb2⟩
  have A2:=Qh (A1.out.quiet hb2)
  clear hb2 A1
  go_wp2
  go_ret
  exact ⟨rfl,A2.out.bel⟩
 case true=>
  have e1:right41I l=1:=by rw [right41I,hg];rfl
  obtain ⟨⟨hl8,hses,_⟩,_⟩:=Xiz hwf hg
  rw [e1] at Hri
  have Ht1:=Qh (fun w hw=>Xh7 I hI v l hv hses (by omega) d w hw)
  have Ht2:=Qh (fun w hw=>Xt2 I v l hv hses (by omega) d w hw)
  obtain ⟨ao,cap,rfl,_,_,_⟩:=id hv
  clear e1 hg hv
  generalize expT l d=g at Ht1 Ht2
  obtain ⟨ct,er⟩:=g
  dsimp only at Ht1 Ht2
  have q1:(ct==ct)=true:=beq_self_eq_true ct
  have q2:(er==er)=true:=beq_self_eq_true er
  go_enter Tryz.func4,Tryz.ntmps4
  go_wp2_with fail
  refine (Hri.out _ A0.out.ok).mono ?_
  rintro e1 w1 ⟨rfl,hb1⟩
  have A1:=Qh (A0.out.quiet hb1)
  clear hb1 A0
  go_wp2_with fail
  refine (Ht1.out _ A1.out.ok).mono ?_
  rintro e2 w2 ⟨rfl,hb2⟩
  have A2:=Qh (A1.out.quiet hb2)
  clear hb2 A1
  go_wp2_with fail
  refine (Ht2.out _ A2.out.ok).mono ?_
  rintro e3 w3 ⟨rfl,hb3⟩
  have A3:=Qh (A2.out.quiet hb3)
  clear hb3 A2
  go_wp2_with fail
  refine (Hal.out _ A3.out.ok).mono ?_
  rintro e4 w4 ⟨rfl,hb4⟩
  have A4:=Qh (A3.out.quiet hb4)
  clear hb4 A3
  go_wp2
  go_ret
  exact ⟨rfl,A4.out.bel⟩
end Go.Proofs.YtdodihnehppnmaaGreatDoor
namespace Go.Proofs.YtdodihnehppnmaaGreatDoor
open Go.ChangeShapes Go.WideShapes Go.ChangeAt Go.RowKit
def HeapI (w:World):IH:=fun b=>match w.heap[b]? with|some (.cells c _ _)=>some c|_=>none
theorem HeapI.ok (w:World):Ok (HeapI w) w:=by
 intro b c h
 unfold HeapI at h
 split at h
 ·rename_i c' e f hb
  cases h
  exact ⟨e,f,hb⟩
 ·cases h
theorem HeapI.of_var {P:Program} {w:World} {name:String} {g:Nat} {cs:Array Value} (hg:P.globalNamed name=some g) (h:w.var? P name=some cs):HeapI w g=some cs:=by
 unfold World.var? at h
 rw [hg,Option.bind_some] at h
 unfold HeapI
 split at h
 ·rename_i hb;cases h;rw [hb]
 ·cases h
theorem HeapI.of_cell {w:World} {a:Addr} {x:Value} (h:w.cell? a=some x):a.spot=none∧ ∃c,HeapI w a.block=some c∧c[a.off]? =some x:=by
 unfold World.cell? at h
 unfold HeapI
 split at h
 ·rename_i c e f hb
  split at h
  ·cases h
  ·rename_i hs
   refine ⟨by cases hsp:a.spot<;>simp_all,c,by rw [hb],h⟩
 ·cases h
def Opens {α:Type} (P:Program) (t:TypeId) (T:Ty α) (Wf:α→Prop):Prop:=
 P.cellsOf t=T.size∧0<T.size∧ ∀ {H:Type} {enc:TypeId × Value→H} {w:World} {base:Nat} {spare:Nat→Bool} {held:Bool} {fuel:Nat} {cs:List Value} {x:DataW H × List MemPlace},
  DataW.trod enc P w base spare held fuel t cs=some x→ ∃y,T.rd (HeapI w) cs y∧Wf y
section
variable {α:Type} {P:Program} {T:Ty α} {Wf:α→Prop}
variable {H:Type} {enc:TypeId × Value→H} {w:World} {base:Nat} {spare:Nat→Bool} {held:Bool} {fuel:Nat} {cs:List Value} {x:DataW H × List MemPlace}
theorem Opens.slice {t e:TypeId} (ht:P.underlying t=some (.slice e)) (he:Opens P e T Wf) (h:DataW.trod enc P w base spare held fuel t cs=some x):
 ∃v l,cs= [v]∧RdS T (HeapI w) v l∧ ∀y∈l,Wf y:=by
 rcases Go.Deep.open_slice ht h with ⟨rfl,_⟩|⟨a,len,cap,m,n,D,Pl,rfl,_,hl,hm,hmm,_,hi⟩
 ·exact ⟨_,[],rfl,RdS.nil _ _,fun _ h=>absurd h (by simp)⟩
 ·have hlm:len≤m:=by rw [hmm];split<;>omega
  have hx:∀i:Fin len,∃y,(∃cs',T.rd (HeapI w) cs' y∧ ∀j u,cs'[j]? =some u→w.cell? (a.add (i.1*T.size+j))=some u)∧Wf y:=by
   intro i
   obtain ⟨cs',hc,ht'⟩:=hi i.1 (by omega)
   rw [he.1] at hc
   obtain ⟨y,hy,hwf⟩:=he.2.2 ht'
   obtain ⟨_,hcl,hat⟩:=World.cells?_some hc
   refine ⟨y,⟨cs',hy,fun j u hu=> ?_⟩,hwf⟩
   have hj:=(List.getElem?_eq_some_iff.1 hu).1
   rw [←hu,←hat j (by omega),Go.Deep.add_add]
  obtain ⟨f,hf⟩:=Classical.axiomOfChoice hx
  refine ⟨_,List.ofFn f,rfl,⟨some a,cap,by rw [List.length_ofFn],by rw [List.length_ofFn];exact hl,hm,fun h0=> ?_⟩,fun y hy=> ?_⟩
  ·rw [List.length_ofFn] at h0
   obtain ⟨cs0,h1,h2⟩:=(hf ⟨0,h0⟩).1
   have hlen:=T.len h1
   have hc0:=h2 0 _ (List.getElem?_eq_getElem (by rw [hlen];exact he.2.1))
   have e0:a.add ((⟨0,h0⟩:Fin len).1*T.size+0)=a:=by simp [Addr.add]
   rw [e0] at hc0
   obtain ⟨hs,c,hc,_⟩:=HeapI.of_cell hc0
   obtain ⟨ab,ao,asp⟩:=a
   change asp=none at hs
   subst hs
   change HeapI w ab=some c at hc
   refine ⟨ab,ao,c,rfl,hc,fun i hi=> ?_⟩
   rw [List.length_ofFn] at hi
   obtain ⟨csi,h3,h4⟩:=(hf ⟨i,hi⟩).1
   refine ⟨csi,by rw [List.getElem_ofFn];exact h3,fun j u hu=> ?_⟩
   have h5:=h4 j u hu
   rw [Addr.add_lit] at h5
   obtain ⟨_,c',hc',h6⟩:=HeapI.of_cell h5
   change HeapI w ab=some c' at hc'
   rw [hc] at hc'
   cases hc'
   exact h6
  ·obtain ⟨i,hi,rfl⟩:=List.getElem_of_mem hy
   rw [List.getElem_ofFn]
   exact (hf _).2
theorem Opens.arg {t e:TypeId} (ht:P.underlying t=some (.slice e)) (he:Opens P e T Wf) {r:Reach} {b0:Nat} {v:Value} {d:DataW H} {ps:List MemPlace} (hv:Value.okWide P w r b0 t v) (h:DataW.Trod enc P w base spare held t v d ps):
 ∃l,RdS T (HeapI w) v l∧ ∀y∈l,Wf y:=by
 obtain ⟨fuel,hf⟩:=h
 obtain ⟨v',l,hcs,h1,h2⟩:=he.slice ht hf
 obtain ⟨ao,cap,rfl,_⟩:=id h1
 obtain ⟨ao',n',c',rfl⟩:=okWide_slice ht hv
 simp [Value.cells] at hcs
 obtain ⟨rfl,rfl,rfl⟩:=hcs
 exact ⟨l,h1,h2⟩
end
theorem Xx4 {α:Type}:∀ {l:List α},l.length=2→ ∃a b,l= [a,b]
 | [a,b],_=>⟨a,b,rfl⟩
theorem Xx3 {α:Type}:∀ {l:List α},l.length=3→ ∃a b c,l= [a,b,c]
 | [a,b,c],_=>⟨a,b,c,rfl⟩
theorem Xe0 {H:Type} {enc:TypeId × Value→H} {P:Program} (hl:laidOutB P=true) {W W':World} (hb:Below W.heap.size W W'):
 ∀ {ts:List TypeId} {vs:List Value} {ds:List (DataW H)} {p:List MemPlace},(ts.all fun t=>P.readableRec t&&decide (t<P.types.size))=true→
 DataW.TrodAll enc P W 0 (fun _=>true) true ts vs ds p→(∀x∈p,x.block<W.heap.size)→DataW.TrodAll enc P W' 0 (fun b=>decide (b<W.heap.size)) true ts vs ds p
 | [],[],[],_,_,h,_=>h
 | [],[],_::_,_,_,h,_=>h.elim
 | [],_::_,_,_,_,h,_=>h.elim
 |_::_,[],_,_,_,h,_=>h.elim
 |_::_,_::_,[],_,_,h,_=>h.elim
 |t::ts,v::vs,d::ds,p,ha,h,hlt=>by
  obtain ⟨q,r,h1,h2,rfl⟩:=h
  simp only [List.all_cons,Bool.and_eq_true,decide_eq_true_eq] at ha
  exact ⟨q,r,hb.trod hl ha.1.1 ha.1.2 h1 (fun x hx=>hlt x (List.mem_append_left _ hx)),Xe0 hl hb ha.2 h2 (fun x hx=>hlt x (List.mem_append_right _ hx)),rfl⟩
theorem Xoo {H:Type} {enc:TypeId × Value→H} {P:Program} (hl:laidOutB P=true) {f:Func} {s:ChangeSpec} {W W':World} {args:Array Value} {ds:List (DataW H)} {before:List MemPlace} {tb:TypeId}
 (hs:s.vars= []) (hW:DataW.Whole enc P f.params.toList s.vars false W args.toList ds [] before) (hr:f.resultTypes= #[tb]) (hu:P.underlying tb=some .bool)
 (hfn:s.fn H (ds++ [])= { results:= [.lit (.bool true)],args:=ds }) (hall:(f.params.toList.all fun t=>P.readableRec t&&decide (t<P.types.size))=true) (hb:Below W.heap.size W W'):
 s.post enc P f false true false false W args (.bool true) W':=by
 have hlt:∀p∈before,p.block<W.heap.size:=fun p hp=>hW.lt p hp
 have hW':=hW
 obtain ⟨p,q,hA,hV,rfl,_,_⟩:=hW'
 rw [hs] at hV
 have hq:q= []:=hV
 subst hq
 refine ⟨ds,[],_,[],p,[],hW,?_,?_,?_,World.keptBut_mono (fun x hx=>⟨hx,?_⟩) (hb.frame (· ∈p++ [])),fun h=>by cases h⟩
 ·rw [hfn,hr];exact trodAll_mk1 (shut_bool hu true)
 ·rw [hfn];exact Xe0 hl hb hall hA (fun x hx=>hlt x (List.mem_append_left _ hx))
 ·rw [hfn,hs];rfl
 ·exact .inr (.inl (by simpa using hx))
end Go.Proofs.YtdodihnehppnmaaGreatDoor
