/-
  Walks and laws that the claim's theorem uses: texts Open RowU, joined; comments out. Conditions: as each theorem says.
-/
import Derived.ProofKit
import Derived.Deep.Slices
import Derived.Lib.LaidTab
import Derived.LaidMore
import Derived.Lay
import Derived.Stop.Joined
import Derived.Stop.LaidErr
import Derived.Test.YtjdednajelommaaGreatDoorQ26
import Derived.Test.YtjdednajelommaaGreatDoorCards
import Derived.Test.YtjdednajelommaaGreatDoorTie
import Derived.HandedShaped
import Derived.SizedLaws
import Derived.Shelf.Vars
set_option linter.unusedSimpArgs false
set_option linter.unusedVariables false
namespace Go.Proofs.YtjdednajelommaaGreatDoor
open Go.ChangeShapes Go.WideShapes Go.ChangeAt Go.RowKit
def HeapI (w:World):IH:=fun b=>match w.heap[b]? with|some (.cells c _ _)=>some c|_=>none
theorem HeapI.ok (w:World):Ok (HeapI w) w:=by
 intro b c h
 unfold HeapI at h
 split at h
 ·rename_i c' e f hb
  cases h
  exact ⟨e,f,hb⟩
 ·cases h
theorem HeapI.of_var {P:Program} {w:World} {name:String} {g:Nat} {cs:Array Value} (hg:P.globalNamed name=some g) (h:w.var? P name=some cs):HeapI w g=some cs:=by
 unfold World.var? at h
 rw [hg,Option.bind_some] at h
 unfold HeapI
 split at h
 ·rename_i hb;cases h;rw [hb]
 ·cases h
theorem HeapI.of_cell {w:World} {a:Addr} {x:Value} (h:w.cell? a=some x):a.spot=none∧ ∃c,HeapI w a.block=some c∧c[a.off]? =some x:=by
 unfold World.cell? at h
 unfold HeapI
 split at h
 ·rename_i c e f hb
  split at h
  ·cases h
  ·rename_i hs
   refine ⟨by cases hsp:a.spot<;>simp_all,c,by rw [hb],h⟩
 ·cases h
def Opens {α:Type} (P:Program) (t:TypeId) (T:Ty α) (Wf:α→Prop):Prop:=
 P.cellsOf t=T.size∧0<T.size∧ ∀ {H:Type} {enc:TypeId × Value→H} {w:World} {base:Nat} {spare:Nat→Bool} {held:Bool} {fuel:Nat} {cs:List Value} {x:DataW H × List MemPlace},
  DataW.trod enc P w base spare held fuel t cs=some x→ ∃y,T.rd (HeapI w) cs y∧Wf y
section
variable {α:Type} {P:Program} {T:Ty α} {Wf:α→Prop}
variable {H:Type} {enc:TypeId × Value→H} {w:World} {base:Nat} {spare:Nat→Bool} {held:Bool} {fuel:Nat} {cs:List Value} {x:DataW H × List MemPlace}
theorem Opens.slice {t e:TypeId} (ht:P.underlying t=some (.slice e)) (he:Opens P e T Wf) (h:DataW.trod enc P w base spare held fuel t cs=some x):
 ∃v l,cs= [v]∧RdS T (HeapI w) v l∧ ∀y∈l,Wf y:=by
 rcases Go.Deep.open_slice ht h with ⟨rfl,_⟩|⟨a,len,cap,m,n,D,Pl,rfl,_,hl,hm,hmm,_,hi⟩
 ·exact ⟨_,[],rfl,RdS.nil _ _,fun _ h=>absurd h (by simp)⟩
 ·have hlm:len≤m:=by rw [hmm];split<;>omega
  have hx:∀i:Fin len,∃y,(∃cs',T.rd (HeapI w) cs' y∧ ∀j u,cs'[j]? =some u→w.cell? (a.add (i.1*T.size+j))=some u)∧Wf y:=by
   intro i
   obtain ⟨cs',hc,ht'⟩:=hi i.1 (by omega)
   rw [he.1] at hc
   obtain ⟨y,hy,hwf⟩:=he.2.2 ht'
   obtain ⟨_,hcl,hat⟩:=World.cells?_some hc
   refine ⟨y,⟨cs',hy,fun j u hu=> ?_⟩,hwf⟩
   have hj:=(List.getElem?_eq_some_iff.1 hu).1
   rw [←hu,←hat j (by omega),Go.Deep.add_add]
  obtain ⟨f,hf⟩:=Classical.axiomOfChoice hx
  refine ⟨_,List.ofFn f,rfl,⟨some a,cap,by rw [List.length_ofFn],by rw [List.length_ofFn];exact hl,hm,fun h0=> ?_⟩,fun y hy=> ?_⟩
  ·rw [List.length_ofFn] at h0
   obtain ⟨cs0,h1,h2⟩:=(hf ⟨0,h0⟩).1
   have hlen:=T.len h1
   have hc0:=h2 0 _ (List.getElem?_eq_getElem (by rw [hlen];exact he.2.1))
   have e0:a.add ((⟨0,h0⟩:Fin len).1*T.size+0)=a:=by simp [Addr.add]
   rw [e0] at hc0
   obtain ⟨hs,c,hc,_⟩:=HeapI.of_cell hc0
   obtain ⟨ab,ao,asp⟩:=a
   change asp=none at hs
   subst hs
   change HeapI w ab=some c at hc
   refine ⟨ab,ao,c,rfl,hc,fun i hi=> ?_⟩
   rw [List.length_ofFn] at hi
   obtain ⟨csi,h3,h4⟩:=(hf ⟨i,hi⟩).1
   refine ⟨csi,by rw [List.getElem_ofFn];exact h3,fun j u hu=> ?_⟩
   have h5:=h4 j u hu
   rw [Addr.add_lit] at h5
   obtain ⟨_,c',hc',h6⟩:=HeapI.of_cell h5
   change HeapI w ab=some c' at hc'
   rw [hc] at hc'
   cases hc'
   exact h6
  ·obtain ⟨i,hi,rfl⟩:=List.getElem_of_mem hy
   rw [List.getElem_ofFn]
   exact (hf _).2
theorem Opens.arg {t e:TypeId} (ht:P.underlying t=some (.slice e)) (he:Opens P e T Wf) {r:Reach} {b0:Nat} {v:Value} {d:DataW H} {ps:List MemPlace} (hv:Value.okWide P w r b0 t v) (h:DataW.Trod enc P w base spare held t v d ps):
 ∃l,RdS T (HeapI w) v l∧ ∀y∈l,Wf y:=by
 obtain ⟨fuel,hf⟩:=h
 obtain ⟨v',l,hcs,h1,h2⟩:=he.slice ht hf
 obtain ⟨ao,cap,rfl,_⟩:=id h1
 obtain ⟨ao',n',c',rfl⟩:=okWide_slice ht hv
 simp [Value.cells] at hcs
 obtain ⟨rfl,rfl,rfl⟩:=hcs
 exact ⟨l,h1,h2⟩
end
theorem Xxu {α:Type}:∀ {l:List α},l.length=2→ ∃a b,l= [a,b]
 | [a,b],_=>⟨a,b,rfl⟩
theorem Xx6 {α:Type}:∀ {l:List α},l.length=5→ ∃a b c d e,l= [a,b,c,d,e]
 | [a,b,c,d,e],_=>⟨a,b,c,d,e,rfl⟩
theorem Xez {H:Type} {enc:TypeId × Value→H} {P:Program} (hl:laidOutB P=true) {W W':World} (hb:Below W.heap.size W W'):
 ∀ {ts:List TypeId} {vs:List Value} {ds:List (DataW H)} {p:List MemPlace},(ts.all fun t=>P.readableRec t&&decide (t<P.types.size))=true→
 DataW.TrodAll enc P W 0 (fun _=>true) true ts vs ds p→(∀x∈p,x.block<W.heap.size)→DataW.TrodAll enc P W' 0 (fun b=>decide (b<W.heap.size)) true ts vs ds p
 | [],[],[],_,_,h,_=>h
 | [],[],_::_,_,_,h,_=>h.elim
 | [],_::_,_,_,_,h,_=>h.elim
 |_::_,[],_,_,_,h,_=>h.elim
 |_::_,_::_,[],_,_,h,_=>h.elim
 |t::ts,v::vs,d::ds,p,ha,h,hlt=>by
  obtain ⟨q,r,h1,h2,rfl⟩:=h
  simp only [List.all_cons,Bool.and_eq_true,decide_eq_true_eq] at ha
  exact ⟨q,r,hb.trod hl ha.1.1 ha.1.2 h1 (fun x hx=>hlt x (List.mem_append_left _ hx)),Xez hl hb ha.2 h2 (fun x hx=>hlt x (List.mem_append_right _ hx)),rfl⟩
theorem Xje {H:Type} {enc:TypeId × Value→H} {P:Program} (hl:laidOutB P=true) {f:Func} {s:ChangeSpec} {W W':World} {args:Array Value} {ds:List (DataW H)} {before:List MemPlace} {tb:TypeId}
 (hs:s.vars= []) (hW:DataW.Whole enc P f.params.toList s.vars false W args.toList ds [] before) (hr:f.resultTypes= #[tb]) (hu:P.underlying tb=some .bool)
 (hfn:s.fn H (ds++ [])= { results:= [.lit (.bool true)],args:=ds }) (hall:(f.params.toList.all fun t=>P.readableRec t&&decide (t<P.types.size))=true) (hb:Below W.heap.size W W'):
 s.post enc P f false true false false W args (.bool true) W':=by
 have hlt:∀p∈before,p.block<W.heap.size:=fun p hp=>hW.lt p hp
 have hW':=hW
 obtain ⟨p,q,hA,hV,rfl,_,_⟩:=hW'
 rw [hs] at hV
 have hq:q= []:=hV
 subst hq
 refine ⟨ds,[],_,[],p,[],hW,?_,?_,?_,World.keptBut_mono (fun x hx=>⟨hx,?_⟩) (hb.frame (· ∈p++ [])),fun h=>by cases h⟩
 ·rw [hfn,hr];exact trodAll_mk1 (shut_bool hu true)
 ·rw [hfn];exact Xez hl hb hall hA (fun x hx=>hlt x (List.mem_append_left _ hx))
 ·rw [hfn,hs];rfl
 ·exact .inr (.inl (by simpa using hx))
end Go.Proofs.YtjdednajelommaaGreatDoor
namespace Go.Proofs.YtjdednajelommaaGreatDoor
open Go.ChangeShapes Go.WideShapes Go.ChangeAt Go.RowKit
theorem own:ownKnob Tryz.prog.godebug=none:=by kernel_rfl
theorem Xm2:laidOutB Tryz.prog=true:=by kernel_rfl
set_option maxRecDepth 100000 in
theorem at_opens:Opens Tryz.prog 89 tAt At.Wf:=by
 refine ⟨by kernel_rfl,by decide,fun {H enc w base spare held fuel cs x} h=> ?_⟩
 obtain ⟨xs,n,_,_,hl,hxl,hf⟩:=DataW.trod_struct Tryz.underlying89 h
 have hc:Tryz.prog.cellsOf 89=2:=by kernel_rfl
 have c3:Tryz.prog.cellsOf 9=1:=by kernel_rfl
 rw [hc] at hl
 obtain ⟨a,b,rfl⟩:=Xxu hl
 simp at hxl
 have h0:=hf 0 _ rfl
 have h1:=hf 1 _ rfl
 rw [List.getElem?_eq_getElem (by omega)] at h0 h1
 simp [c3] at h0 h1
 obtain ⟨s,e0,_,w0⟩:=DataW.trod_string Tryz.underlying9 h0
 obtain ⟨t,e1,_,w1⟩:=DataW.trod_string Tryz.underlying9 h1
 cases e0;cases e1
 have k4:maxLen=9223372036854775807:=rfl
 have hsz:s.data.toList.length=s.size:=Array.length_toList
 have htz:t.data.toList.length=t.size:=Array.length_toList
 refine ⟨⟨s.data.toList,t.data.toList⟩,?_,?_⟩
 ·rfl
 ·exact ⟨by show s.data.toList.length≤_;omega,by show t.data.toList.length≤_;omega⟩
theorem Xm5 {P:Program} {w:World} {r:Reach} {b0:Nat} {t:TypeId} {k:IntKind} {v:Value} (ht:P.underlying t=some (.int k)) (hv:Value.okWide P w r b0 t v):∃n:Int,v= .int k n∧k.min≤n∧n≤k.max:=by
 obtain ⟨n,rfl⟩:=okWide_int ht hv
 simp [Value.okWide,ht,Cell.okWide,Cell.ok,IntKind.has] at hv
 exact ⟨n,rfl,hv.1,hv.2⟩
theorem Xin {P:Program} {n nm:String} {d:DataW Unit} {r:List (String × DataW Unit)} {W:World} {g:Nat} {ti:TypeId} {ms:Array (String × TypeId)}
 (h:laidMet P ((n,.iface nm d)::r) W) (hg:P.globalNamed n=some g) (ht:(P.globals[g]?).map (·.type)=some ti) (hi:P.underlying ti=some (.interface ms)):
 ∃tp p,W.var? P n=some #[.iface tp p]:=by
 obtain ⟨ps,⟨g0,t0,cs0,f0,p0,q0,hg0,ht0,hv0,hd0,_,e0⟩,_,hrows⟩:=h
 obtain rfl:=Option.some.inj (hg.symm.trans hg0)
 obtain rfl:=Option.some.inj (ht.symm.trans ht0)
 subst e0
 obtain ⟨l0⟩:=cs0
 obtain ⟨f1,u,v,hcs,_,_⟩:=iface_of_trod hi hd0
 have hcs':l0= [.iface u v]:=hcs
 subst hcs'
 exact ⟨u,v,hv0⟩
theorem Xd3 {W:World} (h:laidMetH Tryz.prog Rows.sessionWritesRow.laid W) (hsh:W.ShapedOpen Tryz.prog):Glob (HeapI W):=by
 rw [MakeChecks.laidMetH_plain _ _ _ (by kernel_rfl)] at h
 have h2 : Lib.TabIs Tryz.prog W "internal/strconv.uint64pow10" .u64 Lib.pow10Tab :=
  Lib.tabIs_of_head (t:=300) (e:=188) (n:=20) (g:=5) (rest:=(Rows.sessionWritesRow.laid).drop 3) (by kernel_rfl) (by kernel_rfl) Tryz.underlying300 Tryz.underlying188 (by kernel_rfl) (by kernel_rfl) h.tail.tail
 obtain ⟨tp1,p1,h3⟩:=Xin (ti:=167) (g:=2) h.tail.tail.tail.tail (by kernel_rfl) (by kernel_rfl) Tryz.underlying167
 obtain ⟨tp2,p2,h4⟩:=Xin (ti:=167) (g:=1) h.tail.tail.tail.tail.tail (by kernel_rfl) (by kernel_rfl) Tryz.underlying167
 obtain ⟨m,hm⟩:=cell_of_shapedOpen_int (g:=0) (zero:= #[.int .i64 0]) (t:=3) hsh (of_decide_eq_true (by kernel_rfl)) (by kernel_rfl) rfl (by kernel_rfl) (by kernel_rfl) Tryz.underlying3
 obtain ⟨_,c,hc1,hc2⟩:=HeapI.of_cell hm
 exact ⟨HeapI.of_var (by kernel_rfl) h2,⟨c,m,hc1,hc2⟩,⟨tp2,p2,HeapI.of_var (by kernel_rfl) h4⟩,⟨tp1,p1,HeapI.of_var (by kernel_rfl) h3⟩⟩
section
variable {H:Type} {enc:TypeId × Value→H}
theorem Xfg {a:Assume} {C:Checked} {os:Os} {f:FuncId} {fn:Func} {s:ChangeSpec} {conds:List PathCond} {apart fresh handsOn again:Bool} {X:World→Array Value→Prop}
 (hX:∀(w w':World) (args:Array Value),w.heap=w'.heap→X w args→X w' args)
 (own:ownKnob C.prog.godebug=none) (started:os.Started) (noInit:C.prog.inits.idxOf? f=none) (hfn:C.prog.funcs[f]? =some fn)
 (witness:∃(w:World) (tape:Tape) (i:Input),w.os=os∧(w.forCall tape i).Shaped C.prog∧i.vars= []∧Input.okWide C.prog (w.forCall tape i) .any w.heap.size f i∧
   ((s.pre enc C.prog fn conds apart (w.forCall tape i).memory i.args∧X (w.forCall tape i).memory i.args)∧sizedMet enc C.prog fn (OpenSpec.ofChange s) apart (w.forCall tape i).memory i.args)∧a.holds C.prog (lone (Frame.enter C.prog f i.args .normal) [] (w.forCall tape i)))
 (contract:∀(W:World) (base:Nat) (args:Array Value) (ds gs:List (DataW H)) (before:List MemPlace),
   (∀(j:Nat) t v,fn.params[j]? =some t→args[j]? =some v→Value.okWide C.prog W .any base t v)→
   DataW.Whole enc C.prog fn.params.toList s.vars apart W args.toList ds gs before→
   W.ShapedOpen C.prog→X W args→
   Calls C.prog f args W fun e W'=> ∃v,e= .returned v∧s.post enc C.prog fn apart fresh handsOn again W args v W'):
 ReturnsInHanded a C os f .any (fun w args=>(s.pre enc C.prog fn conds apart w args∧X w args)∧sizedMet enc C.prog fn (OpenSpec.ofChange s) apart w args) (s.post enc C.prog fn apart fresh handsOn again):=by
 refine returnsInHanded_of_calls own started noInit witness ?_
 intro w tape i _ hsh _ hok hpre hholds
 obtain ⟨_,_,_,fn',hfn',_,_,_,_,hval⟩:=hok
 have e:fn'=fn:=Option.some.inj (hfn'.symm.trans hfn)
 subst e
 obtain ⟨⟨⟨ds,gs,before,hw,hc⟩,hx⟩,hz⟩:=hpre
 have hw':=DataW.Whole.of_heap (w':=w.forCall tape i) (by rfl) hw
 refine (contract (w.forCall tape i) w.heap.size i.args ds gs before hval hw' hsh (hX _ _ _ (by rfl) hx)).mono fun e W' ⟨v,he,hp⟩=> ?_
 subst he
 exact ChangeSpec.post_blind hp
end
section
variable {H:Type} {enc:TypeId × Value→H}
theorem Xk6 {a:Assume} {C:Checked} {os:Os} {f:FuncId} {fn:Func} {s:ChangeSpec} {conds:List PathCond} {apart fresh handsOn again:Bool} {X:World→Array Value→Prop}
 (hX:∀(w w':World) (args:Array Value),w.heap=w'.heap→X w args→X w' args)
 (own:ownKnob C.prog.godebug=none) (started:os.Started) (noInit:C.prog.inits.idxOf? f=none) (hfn:C.prog.funcs[f]? =some fn)
 (witness:∃(w:World) (tape:Tape) (i:Input),w.os=os∧(w.forCall tape i).Shaped C.prog∧i.vars= []∧Input.okWide C.prog (w.forCall tape i) .any w.heap.size f i∧
   ((s.pre enc C.prog fn conds apart (w.forCall tape i).memory i.args∧X (w.forCall tape i).memory i.args)∧sizedMet enc C.prog fn (OpenSpec.ofChange s) apart (w.forCall tape i).memory i.args)∧a.holds C.prog (lone (Frame.enter C.prog f i.args .normal) [] (w.forCall tape i)))
 (contract:∀(W:World) (base:Nat) (args:Array Value) (ds gs:List (DataW H)) (before:List MemPlace),
   (∀(j:Nat) t v,fn.params[j]? =some t→args[j]? =some v→Value.okWide C.prog W .any base t v)→
   DataW.Whole enc C.prog fn.params.toList s.vars apart W args.toList ds gs before→
   W.ShapedOpen C.prog→X W args→sizedMet enc C.prog fn (OpenSpec.ofChange s) apart W args→
   Calls C.prog f args W fun e W'=> ∃v,e= .returned v∧s.post enc C.prog fn apart fresh handsOn again W args v W'):
 ReturnsInHanded a C os f .any (fun w args=>(s.pre enc C.prog fn conds apart w args∧X w args)∧sizedMet enc C.prog fn (OpenSpec.ofChange s) apart w args) (s.post enc C.prog fn apart fresh handsOn again):=by
 refine returnsInHanded_of_calls own started noInit witness ?_
 intro w tape i _ hsh _ hok hpre hholds
 obtain ⟨_,_,_,fn',hfn',_,_,_,_,hval⟩:=hok
 have e:fn'=fn:=Option.some.inj (hfn'.symm.trans hfn)
 subst e
 obtain ⟨⟨⟨ds,gs,before,hw,hc⟩,hx⟩,hz⟩:=hpre
 have hw':=DataW.Whole.of_heap (w':=w.forCall tape i) (by rfl) hw
 obtain ⟨hp2,ds2,gs2,bf2,hw2,hall2⟩:=hz
 refine (contract (w.forCall tape i) w.heap.size i.args ds gs before hval hw' hsh (hX _ _ _ (by rfl) hx) ⟨hp2,ds2,gs2,bf2,DataW.Whole.of_heap (w':=w.forCall tape i) (by rfl) hw2,hall2⟩).mono fun e W' ⟨v,he,hp⟩=> ?_
 subst he
 exact ChangeSpec.post_blind hp
end
theorem Xu6 {P:Program} {w:World} {r:Reach} {b0:Nat} {t:TypeId} {v:Value} (ht:P.underlying t=some .string) (hv:Value.okWide P w r b0 t v):∃s:Bytes,v=S s:=by
 obtain ⟨s,rfl⟩:=okWide_string ht hv
 exact ⟨s.data.toList,by rw [S,Xxs]⟩
set_option maxRecDepth 100000 in
theorem chg_opens:Opens Tryz.prog 53 tChg Chg.In:=by
 refine ⟨by kernel_rfl,by decide,fun {H enc w base spare held fuel cs x} h=> ?_⟩
 obtain ⟨xs,n,_,_,hl,hxl,hf⟩:=DataW.trod_struct Tryz.underlying53 h
 have hc:Tryz.prog.cellsOf 53=5:=by kernel_rfl
 have c2:Tryz.prog.cellsOf 3=1:=by kernel_rfl
 have c3:Tryz.prog.cellsOf 9=1:=by kernel_rfl
 have c4:Tryz.prog.cellsOf 51=1:=by kernel_rfl
 rw [hc] at hl
 obtain ⟨u0,u1,u2,u3,u4,rfl⟩:=Xx6 hl
 simp at hxl
 have h0:=hf 0 _ rfl
 have h1:=hf 1 _ rfl
 have h2:=hf 2 _ rfl
 have h3:=hf 3 _ rfl
 have h4:=hf 4 _ rfl
 rw [List.getElem?_eq_getElem (by omega)] at h0 h1 h2 h3 h4
 simp [c2,c3,c4] at h0 h1 h2 h3 h4
 obtain ⟨i0,e0,_,w0⟩:=DataW.trod_int Tryz.underlying3 h0
 obtain ⟨s1,e1,_,w1⟩:=DataW.trod_string Tryz.underlying9 h1
 obtain ⟨v2,l2,e2,r2,m2⟩:=at_opens.slice Tryz.underlying51 h2
 obtain ⟨s3,e3,_,w3⟩:=DataW.trod_string Tryz.underlying9 h3
 obtain ⟨s4,e4,_,w4⟩:=DataW.trod_string Tryz.underlying9 h4
 cases e0;cases e1;cases e2;cases e3;cases e4
 rw [Go.Lit.wf_int_iff] at w0
 have k2:IntKind.i64.min= -9223372036854775808:=rfl
 have k3:IntKind.i64.max=9223372036854775807:=rfl
 refine ⟨⟨i0,s1.data.toList,l2,s3.data.toList,s4.data.toList⟩,⟨u2,rfl,r2⟩,⟨?_,?_⟩⟩
 ·show _≤i0;omega
 ·show i0≤_;omega
set_option maxRecDepth 100000 in
theorem bat_opens:Opens Tryz.prog 36 tBat Bat.In:=by
 refine ⟨by kernel_rfl,by decide,fun {H enc w base spare held fuel cs x} h=> ?_⟩
 obtain ⟨xs,n,_,_,hl,hxl,hf⟩:=DataW.trod_struct Tryz.underlying36 h
 have hc:Tryz.prog.cellsOf 36=2:=by kernel_rfl
 have c2:Tryz.prog.cellsOf 3=1:=by kernel_rfl
 have c4:Tryz.prog.cellsOf 34=1:=by kernel_rfl
 rw [hc] at hl
 obtain ⟨u0,u1,rfl⟩:=Xxu hl
 simp at hxl
 have h0:=hf 0 _ rfl
 have h1:=hf 1 _ rfl
 rw [List.getElem?_eq_getElem (by omega)] at h0 h1
 simp [c2,c4] at h0 h1
 obtain ⟨i0,e0,_,w0⟩:=DataW.trod_int Tryz.underlying3 h0
 obtain ⟨v1,l1,e1,r1,m1⟩:=chg_opens.slice Tryz.underlying34 h1
 cases e0;cases e1
 rw [Go.Lit.wf_int_iff] at w0
 have k2:IntKind.i64.min= -9223372036854775808:=rfl
 have k3:IntKind.i64.max=9223372036854775807:=rfl
 refine ⟨⟨i0,l1⟩,⟨u1,rfl,r1⟩,⟨?_,?_,m1⟩⟩
 ·show _≤i0;omega
 ·show i0≤_;omega
theorem Xmf {H:Type} {enc:TypeId × Value→H} {P:Program} {w:World} {base:Nat} {spare:Nat→Bool} {held:Bool} {t e:TypeId} {ao:Option Addr} {n c:Nat} {d:DataW H} {ps:List MemPlace} {ts:List TypeId} {ds:List (DataW H)} {j:Nat}
 (ht:P.underlying t=some (.slice e)) (h:DataW.Trod enc P w base spare held t (.slice ao n c) d ps) (hs:(DataW.weightsEach P ts ds).all (· ≤reachBytes)=true) (hj:ts[j]? =some t) (hd:ds[j]? =some d):n*P.bytesOf e≤reachBytes:=by
 obtain ⟨fuel,hf⟩:=h
 rcases DataW.trod_slice ht hf with ⟨h1,_⟩|⟨a,len,cap,elems,rest,m,_,h1,h2,_,_,_,hl,_⟩
 ·simp [Value.cells] at h1
  obtain ⟨_,rfl,_⟩:=h1
  simp
 ·simp [Value.cells] at h1
  obtain ⟨_,rfl,_⟩:=h1
  injection h2 with h2 _
  subst h2
  have:=sized_slice hs hj hd ht
  rw [List.length_map,List.length_map,hl] at this
  exact Nat.le_trans (Nat.mul_le_mul_right _ (Nat.le_add_right _ _)) this
end Go.Proofs.YtjdednajelommaaGreatDoor
