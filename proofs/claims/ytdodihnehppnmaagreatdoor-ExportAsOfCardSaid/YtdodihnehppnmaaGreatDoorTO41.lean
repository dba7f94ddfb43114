/- Lemmas; conditions: as each says. -/
import Derived.Test.YtdodihnehppnmaaGreatDoorTO40
import Derived.Test.YtdodihnehppnmaaGreatDoorCards
import Derived.Test.YtdodihnehppnmaaGreatDoorTie
import Derived.HandedShaped
import Derived.Shelf.Vars
set_option linter.all false
namespace Go.Proofs.YtdodihnehppnmaaGreatDoor
open Go.ChangeShapes Go.WideShapes Go.ChangeAt Go.RowKit
theorem own:ownKnob Tryz.prog.godebug=none:=by kernel_rfl
theorem laidOut:laidOutB Tryz.prog=true:=by kernel_rfl
set_option maxRecDepth 100000 in
theorem at_opens:Opens Tryz.prog 94 tAt At.Wf:=by
 refine ⟨by kernel_rfl,by decide,fun {H enc w base spare held fuel cs x} h=> ?_⟩
 obtain ⟨xs,n,_,_,hl,hxl,hf⟩:=DataW.trod_struct Tryz.underlying94 h
 have hc:Tryz.prog.cellsOf 94=2:=by kernel_rfl
 have c3:Tryz.prog.cellsOf 9=1:=by kernel_rfl
 rw [hc] at hl
 obtain ⟨a,b,rfl⟩:=Xx4 hl
 simp at hxl
 have h0:=hf 0 _ rfl
 have h1:=hf 1 _ rfl
 rw [List.getElem?_eq_getElem (by omega)] at h0 h1
 simp [c3] at h0 h1
 obtain ⟨s,e0,_,w0⟩:=DataW.trod_string Tryz.underlying9 h0
 obtain ⟨t,e1,_,w1⟩:=DataW.trod_string Tryz.underlying9 h1
 cases e0;cases e1
 have k4:maxLen=9223372036854775807:=rfl
 have hsz:s.data.toList.length=s.size:=Array.length_toList
 have htz:t.data.toList.length=t.size:=Array.length_toList
 refine ⟨⟨s.data.toList,t.data.toList⟩,?_,?_⟩
 ·rfl
 ·exact ⟨by show s.data.toList.length≤_;omega,by show t.data.toList.length≤_;omega⟩
set_option maxRecDepth 100000 in
theorem xt_opens:Opens Tryz.prog 134 tXt Xt.Wf:=by
 refine ⟨by kernel_rfl,by decide,fun {H enc w base spare held fuel cs x} h=> ?_⟩
 obtain ⟨xs,n,_,_,hl,hxl,hf⟩:=DataW.trod_struct Tryz.underlying134 h
 have hc:Tryz.prog.cellsOf 134=3:=by kernel_rfl
 have c2:Tryz.prog.cellsOf 3=1:=by kernel_rfl
 rw [hc] at hl
 obtain ⟨a,b,c,rfl⟩:=Xx3 hl
 simp at hxl
 have h0:=hf 0 _ rfl
 have h1:=hf 1 _ rfl
 have h2:=hf 2 _ rfl
 rw [List.getElem?_eq_getElem (by omega)] at h0 h1 h2
 simp [c2] at h0 h1 h2
 obtain ⟨i,e0,_,w0⟩:=DataW.trod_int Tryz.underlying3 h0
 obtain ⟨j,e1,_,w1⟩:=DataW.trod_int Tryz.underlying3 h1
 obtain ⟨k,e2,_,w2⟩:=DataW.trod_int Tryz.underlying3 h2
 cases e0;cases e1;cases e2
 rw [Go.Lit.wf_int_iff] at w0 w1 w2
 have k2:IntKind.i64.min= -9223372036854775808:=rfl
 have k3:IntKind.i64.max=9223372036854775807:=rfl
 refine ⟨⟨i,j,k⟩,rfl,⟨?_,?_⟩,⟨?_,?_⟩,⟨?_,?_⟩⟩
 ·show _≤i;omega
 ·show i≤_;omega
 ·show _≤j;omega
 ·show j≤_;omega
 ·show _≤k;omega
 ·show k≤_;omega
theorem Xx1 {α:Type}:∀ {l:List α},l.length=7→ ∃a b c d e f g,l= [a,b,c,d,e,f,g]
 | [a,b,c,d,e,f,g],_=>⟨a,b,c,d,e,f,g,rfl⟩
set_option maxRecDepth 100000 in
theorem ent_opens:Opens Tryz.prog 26 tEnt Ent.Wf:=by
 refine ⟨by kernel_rfl,by decide,fun {H enc w base spare held fuel cs x} h=> ?_⟩
 obtain ⟨xs,n,_,_,hl,hxl,hf⟩:=DataW.trod_struct Tryz.underlying26 h
 have hc:Tryz.prog.cellsOf 26=7:=by kernel_rfl
 have c2:Tryz.prog.cellsOf 3=1:=by kernel_rfl
 have c3:Tryz.prog.cellsOf 9=1:=by kernel_rfl
 have c4:Tryz.prog.cellsOf 23=1:=by kernel_rfl
 have c5:Tryz.prog.cellsOf 24=1:=by kernel_rfl
 rw [hc] at hl
 obtain ⟨u0,u1,u2,u3,u4,u5,u6,rfl⟩:=Xx1 hl
 simp at hxl
 have h0:=hf 0 _ rfl
 have h1:=hf 1 _ rfl
 have h2:=hf 2 _ rfl
 have h3:=hf 3 _ rfl
 have h4:=hf 4 _ rfl
 have h5:=hf 5 _ rfl
 have h6:=hf 6 _ rfl
 rw [List.getElem?_eq_getElem (by omega)] at h0 h1 h2 h3 h4 h5 h6
 simp [c2,c3,c4,c5] at h0 h1 h2 h3 h4 h5 h6
 obtain ⟨i0,e0,_,w0⟩:=DataW.trod_int Tryz.underlying3 h0
 obtain ⟨s1,e1,_,w1⟩:=DataW.trod_string Tryz.underlying9 h1
 obtain ⟨v2,l2,e2,r2,m2⟩:=at_opens.slice Tryz.underlying23 h2
 obtain ⟨s3,e3,_,w3⟩:=DataW.trod_string Tryz.underlying9 h3
 obtain ⟨i4,e4,_,w4⟩:=DataW.trod_int Tryz.underlying3 h4
 obtain ⟨s5,e5,_,w5⟩:=DataW.trod_string Tryz.underlying9 h5
 obtain ⟨v6,l6,e6,r6,m6⟩:=xt_opens.slice Tryz.underlying24 h6
 cases e0;cases e1;cases e2;cases e3;cases e4;cases e5;cases e6
 rw [Go.Lit.wf_int_iff] at w0 w4
 have k2:IntKind.i64.min= -9223372036854775808:=rfl
 have k3:IntKind.i64.max=9223372036854775807:=rfl
 have k4:maxLen=9223372036854775807:=rfl
 have z1:s1.data.toList.length=s1.size:=Array.length_toList
 have z3:s3.data.toList.length=s3.size:=Array.length_toList
 have z5:s5.data.toList.length=s5.size:=Array.length_toList
 refine ⟨⟨i0,s1.data.toList,l2,s3.data.toList,i4,s5.data.toList,l6⟩,⟨u2,u6,rfl,r2,r6⟩,?_,?_,?_,m2,?_,?_,?_,?_,m6⟩
 ·show _≤i0;omega
 ·show i0≤_;omega
 ·show s1.data.toList.length≤_;omega
 ·show s3.data.toList.length≤_;omega
 ·show _≤i4;omega
 ·show i4≤_;omega
 ·show s5.data.toList.length≤_;omega
theorem Xx2 {α:Type}:∀ {l:List α},l.length=6→ ∃a b c d e f,l= [a,b,c,d,e,f]
 | [a,b,c,d,e,f],_=>⟨a,b,c,d,e,f,rfl⟩
set_option maxRecDepth 100000 in
theorem ses_opens:Opens Tryz.prog 35 tSes Ses.Wf:=by
 refine ⟨by kernel_rfl,by decide,fun {H enc w base spare held fuel cs x} h=> ?_⟩
 obtain ⟨xs,n,_,_,hl,hxl,hf⟩:=DataW.trod_struct Tryz.underlying35 h
 have hc:Tryz.prog.cellsOf 35=6:=by kernel_rfl
 have c2:Tryz.prog.cellsOf 3=1:=by kernel_rfl
 have c3:Tryz.prog.cellsOf 9=1:=by kernel_rfl
 have c4:Tryz.prog.cellsOf 33=1:=by kernel_rfl
 rw [hc] at hl
 obtain ⟨u0,u1,u2,u3,u4,u5,rfl⟩:=Xx2 hl
 simp at hxl
 have h0:=hf 0 _ rfl
 have h1:=hf 1 _ rfl
 have h2:=hf 2 _ rfl
 have h3:=hf 3 _ rfl
 have h4:=hf 4 _ rfl
 have h5:=hf 5 _ rfl
 rw [List.getElem?_eq_getElem (by omega)] at h0 h1 h2 h3 h4 h5
 simp [c2,c3,c4] at h0 h1 h2 h3 h4 h5
 obtain ⟨i0,e0,_,w0⟩:=DataW.trod_int Tryz.underlying3 h0
 obtain ⟨i1,e1,_,w1⟩:=DataW.trod_int Tryz.underlying3 h1
 obtain ⟨s2,e2,_,w2⟩:=DataW.trod_string Tryz.underlying9 h2
 obtain ⟨v3,l3,e3,r3,m3⟩:=ent_opens.slice Tryz.underlying33 h3
 obtain ⟨s4,e4,_,w4⟩:=DataW.trod_string Tryz.underlying9 h4
 obtain ⟨s5,e5,_,w5⟩:=DataW.trod_string Tryz.underlying9 h5
 cases e0;cases e1;cases e2;cases e3;cases e4;cases e5
 rw [Go.Lit.wf_int_iff] at w0 w1
 have k2:IntKind.i64.min= -9223372036854775808:=rfl
 have k3:IntKind.i64.max=9223372036854775807:=rfl
 refine ⟨⟨i0,i1,s2.data.toList,l3,s4.data.toList,s5.data.toList⟩,⟨u3,rfl,r3⟩,⟨?_,?_⟩,⟨?_,?_⟩,m3⟩
 ·show _≤i0;omega
 ·show i0≤_;omega
 ·show _≤i1;omega
 ·show i1≤_;omega
theorem Xnl {P:Program} {w:World} {r:Reach} {b0:Nat} {t:TypeId} {k:IntKind} {v:Value} (ht:P.underlying t=some (.int k)) (hv:Value.okWide P w r b0 t v):∃n:Int,v= .int k n∧k.min≤n∧n≤k.max:=by
 obtain ⟨n,rfl⟩:=okWide_int ht hv
 simp [Value.okWide,ht,Cell.okWide,Cell.ok,IntKind.has] at hv
 exact ⟨n,rfl,hv.1,hv.2⟩
theorem Xi9 {P:Program} {n nm:String} {d:DataW Unit} {r:List (String × DataW Unit)} {W:World} {g:Nat} {ti:TypeId} {ms:Array (String × TypeId)}
 (h:laidMet P ((n,.iface nm d)::r) W) (hg:P.globalNamed n=some g) (ht:(P.globals[g]?).map (·.type)=some ti) (hi:P.underlying ti=some (.interface ms)):
 ∃tp p,W.var? P n=some #[.iface tp p]:=by
 obtain ⟨ps,⟨g0,t0,cs0,f0,p0,q0,hg0,ht0,hv0,hd0,_,e0⟩,_,hrows⟩:=h
 obtain rfl:=Option.some.inj (hg.symm.trans hg0)
 obtain rfl:=Option.some.inj (ht.symm.trans ht0)
 subst e0
 obtain ⟨l0⟩:=cs0
 obtain ⟨f1,u,v,hcs,_,_⟩:=iface_of_trod hi hd0
 have hcs':l0= [.iface u v]:=hcs
 subst hcs'
 exact ⟨u,v,hv0⟩
theorem Xgj {W:World} (h:laidMetH Tryz.prog Rows.exportContentRow.laid W) (hsh:W.ShapedOpen Tryz.prog):Glob (HeapI W):=by
 rw [MakeChecks.laidMetH_plain _ _ _ (by kernel_rfl)] at h
 have h2 : Lib.TabIs Tryz.prog W "internal/strconv.uint64pow10" .u64 Lib.pow10Tab :=
  Lib.tabIs_of_head (t:=287) (e:=46) (n:=20) (g:=3) (rest:=(Rows.exportContentRow.laid).drop 3) (by kernel_rfl) (by kernel_rfl) Tryz.underlying287 Tryz.underlying46 (by kernel_rfl) (by kernel_rfl) h.tail.tail
 obtain ⟨tp1,p1,h3⟩:=Xi9 (ti:=79) (g:=2) h.tail.tail.tail.tail (by kernel_rfl) (by kernel_rfl) Tryz.underlying79
 obtain ⟨tp2,p2,h4⟩:=Xi9 (ti:=79) (g:=1) h.tail.tail.tail.tail.tail (by kernel_rfl) (by kernel_rfl) Tryz.underlying79
 obtain ⟨m,hm⟩:=cell_of_shapedOpen_int (g:=0) (zero:= #[.int .i64 0]) (t:=3) hsh (of_decide_eq_true (by kernel_rfl)) (by kernel_rfl) rfl (by kernel_rfl) (by kernel_rfl) Tryz.underlying3
 obtain ⟨_,c,hc1,hc2⟩:=HeapI.of_cell hm
 exact ⟨HeapI.of_var (by kernel_rfl) h2,⟨c,m,hc1,hc2⟩,⟨tp2,p2,HeapI.of_var (by kernel_rfl) h4⟩,⟨tp1,p1,HeapI.of_var (by kernel_rfl) h3⟩⟩
section
variable {H:Type} {enc:TypeId × Value→H}
theorem Xfj {a:Assume} {C:Checked} {os:Os} {f:FuncId} {fn:Func} {s:ChangeSpec} {conds:List PathCond} {apart fresh handsOn again:Bool} {X:World→Array Value→Prop}
 (hX:∀(w w':World) (args:Array Value),w.heap=w'.heap→X w args→X w' args)
 (own:ownKnob C.prog.godebug=none) (started:os.Started) (noInit:C.prog.inits.idxOf? f=none) (hfn:C.prog.funcs[f]? =some fn)
 (witness:∃(w:World) (tape:Tape) (i:Input),w.os=os∧(w.forCall tape i).Shaped C.prog∧i.vars= []∧Input.okWide C.prog (w.forCall tape i) .any w.heap.size f i∧
   ((s.pre enc C.prog fn conds apart (w.forCall tape i).memory i.args∧X (w.forCall tape i).memory i.args)∧sizedMet enc C.prog fn (OpenSpec.ofChange s) apart (w.forCall tape i).memory i.args)∧a.holds C.prog (lone (Frame.enter C.prog f i.args .normal) [] (w.forCall tape i)))
 (contract:∀(W:World) (base:Nat) (args:Array Value) (ds gs:List (DataW H)) (before:List MemPlace),
   (∀(j:Nat) t v,fn.params[j]? =some t→args[j]? =some v→Value.okWide C.prog W .any base t v)→
   DataW.Whole enc C.prog fn.params.toList s.vars apart W args.toList ds gs before→
   W.ShapedOpen C.prog→X W args→
   Calls C.prog f args W fun e W'=> ∃v,e= .returned v∧s.post enc C.prog fn apart fresh handsOn again W args v W'):
 ReturnsInHanded a C os f .any (fun w args=>(s.pre enc C.prog fn conds apart w args∧X w args)∧sizedMet enc C.prog fn (OpenSpec.ofChange s) apart w args) (s.post enc C.prog fn apart fresh handsOn again):=by
 refine returnsInHanded_of_calls own started noInit witness ?_
 intro w tape i _ hsh _ hok hpre hholds
 obtain ⟨_,_,_,fn',hfn',_,_,_,_,hval⟩:=hok
 have e:fn'=fn:=Option.some.inj (hfn'.symm.trans hfn)
 subst e
 obtain ⟨⟨⟨ds,gs,before,hw,hc⟩,hx⟩,hz⟩:=hpre
 have hw':=DataW.Whole.of_heap (w':=w.forCall tape i) (by rfl) hw
 refine (contract (w.forCall tape i) w.heap.size i.args ds gs before hval hw' hsh (hX _ _ _ (by rfl) hx)).mono fun e W' ⟨v,he,hp⟩=> ?_
 subst he
 exact ChangeSpec.post_blind hp
end
end Go.Proofs.YtdodihnehppnmaaGreatDoor
