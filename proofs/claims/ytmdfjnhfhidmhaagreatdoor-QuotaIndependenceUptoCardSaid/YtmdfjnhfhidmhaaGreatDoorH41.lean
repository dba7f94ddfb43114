/-
  Walks and laws that the claim's theorem uses: texts RowU RowV, joined; comments out. Conditions: as each theorem says.
-/
import Derived.Test.YtmdfjnhfhidmhaaGreatDoorH40
import Derived.Test.YtmdfjnhfhidmhaaGreatDoorCards
import Derived.Test.YtmdfjnhfhidmhaaGreatDoorTie
import Derived.HandedShaped
import Derived.SizedLaws
import Derived.Shelf.Vars
import Derived.Deep.DeepHandedRow
set_option linter.all false
namespace Go.Proofs.YtmdfjnhfhidmhaaGreatDoor
open Go.ChangeShapes Go.WideShapes Go.ChangeAt Go.RowKit
theorem own:ownKnob Tryz.prog.godebug=none:=by kernel_rfl
theorem Xko:laidOutB Tryz.prog=true:=by kernel_rfl
theorem Xuo {α:Type}:∀ {l:List α},l.length=6→ ∃a b c d e f,l= [a,b,c,d,e,f]
 | [a,b,c,d,e,f],_=>⟨a,b,c,d,e,f,rfl⟩
theorem Xgy {P:Program} {n nm:String} {d:DataW Unit} {r:List (String × DataW Unit)} {W:World} {g:Nat} {ti:TypeId} {ms:Array (String × TypeId)}
 (h:laidMet P ((n,.iface nm d)::r) W) (hg:P.globalNamed n=some g) (ht:(P.globals[g]?).map (·.type)=some ti) (hi:P.underlying ti=some (.interface ms)):
 ∃tp p,W.var? P n=some #[.iface tp p]:=by
 obtain ⟨ps,⟨g0,t0,cs0,f0,p0,q0,hg0,ht0,hv0,hd0,_,e0⟩,_,hrows⟩:=h
 obtain rfl:=Option.some.inj (hg.symm.trans hg0)
 obtain rfl:=Option.some.inj (ht.symm.trans ht0)
 subst e0
 obtain ⟨l0⟩:=cs0
 obtain ⟨f1,u,v,hcs,_,_⟩:=iface_of_trod hi hd0
 have hcs':l0= [.iface u v]:=hcs
 subst hcs'
 exact ⟨u,v,hv0⟩
theorem Xcw {W:World} (h:laidMetH Tryz.prog Rows.sessionWritesRow.laid W) (hsh:W.ShapedOpen Tryz.prog):Glob (HeapI W):=by
 rw [MakeChecks.laidMetH_plain _ _ _ (by kernel_rfl)] at h
 have h2 : Lib.TabIs Tryz.prog W "internal/strconv.uint64pow10" .u64 Lib.pow10Tab :=
  Lib.tabIs_of_head (t:=305) (e:=210) (n:=20) (g:=5) (rest:=(Rows.sessionWritesRow.laid).drop 3) (by kernel_rfl) (by kernel_rfl) Tryz.underlying305 Tryz.underlying210 (by kernel_rfl) (by kernel_rfl) h.tail.tail
 obtain ⟨tp1,p1,h3⟩:=Xgy (ti:=191) (g:=2) h.tail.tail.tail.tail (by kernel_rfl) (by kernel_rfl) Tryz.underlying191
 obtain ⟨tp2,p2,h4⟩:=Xgy (ti:=191) (g:=1) h.tail.tail.tail.tail.tail (by kernel_rfl) (by kernel_rfl) Tryz.underlying191
 obtain ⟨m,hm⟩:=cell_of_shapedOpen_int (g:=0) (zero:= #[.int .i64 0]) (t:=3) hsh (of_decide_eq_true (by kernel_rfl)) (by kernel_rfl) rfl (by kernel_rfl) (by kernel_rfl) Tryz.underlying3
 obtain ⟨_,c,hc1,hc2⟩:=HeapI.of_cell hm
 exact ⟨HeapI.of_var (by kernel_rfl) h2,⟨c,m,hc1,hc2⟩,⟨tp2,p2,HeapI.of_var (by kernel_rfl) h4⟩,⟨tp1,p1,HeapI.of_var (by kernel_rfl) h3⟩⟩
section
variable {H:Type} {enc:TypeId × Value→H}
end
section
variable {H:Type} {enc:TypeId × Value→H}
end
end Go.Proofs.YtmdfjnhfhidmhaaGreatDoor
namespace Go.Proofs.YtmdfjnhfhidmhaaGreatDoor
open Go.ChangeShapes Go.WideShapes Go.ChangeAt Go.RowKit
theorem Xud {H:Type} (d:DataW H):1≤Rows.uptoBulk d:=by
 cases d with
 |lit l=>cases l<;>simp [Rows.uptoBulk]
 |nil=>simp [Rows.uptoBulk]
 |ptr d=>simp [Rows.uptoBulk]
 |slice elems spare=>simp [Rows.uptoBulk]
 |agg parts=>simp [Rows.uptoBulk]
 |iface t d=>simp [Rows.uptoBulk]
 |map entries=>simp [Rows.uptoBulk]
 |held h=>simp [Rows.uptoBulk]
theorem Xkw {H:Type} {d:DataW H} {l:List (DataW H)} (h:d∈l):Rows.uptoBulk d≤Rows.uptoBulkAll l:=by
 induction l with
 |nil=>cases h
 |cons x r ih=>
  simp only [Rows.uptoBulkAll]
  cases List.mem_cons.1 h with
  |inl e=>subst e;omega
  |inr e=>have:=ih e;omega
theorem Xue {H:Type} (l:List (DataW H)):l.length≤Rows.uptoBulkAll l:=by
 induction l with
 |nil=>simp [Rows.uptoBulkAll]
 |cons x r ih=>have:=Xud x;simp only [Rows.uptoBulkAll,List.length_cons];omega
theorem Xf7 {H:Type} (bytes:List UInt8):Rows.uptoBulk (DataW.lit (H:=H) (.string bytes))=bytes.length+1:=by simp [Rows.uptoBulk]
theorem Xha {H:Type} {ds gs:List (DataW H)} (h:Rows.uptoSmall H (ds++gs)=true) {d:DataW H} (hd:d∈ds):Rows.uptoBulk d≤1048576:=by
 have h2:Rows.uptoBulkAll (ds++gs)≤1048576:=of_decide_eq_true h
 exact Nat.le_trans (Xkw (List.mem_append_left _ hd)) h2
def OpensN {α:Type} (P:Program) (t:TypeId) (T:Ty α) (Wf:α→Prop):Prop:=
 P.cellsOf t=T.size∧0<T.size∧ ∀ {H:Type} {enc:TypeId × Value→H} {w:World} {base:Nat} {spare:Nat→Bool} {held:Bool} {fuel:Nat} {cs:List Value} {x:DataW H × List MemPlace},
  DataW.trod enc P w base spare held fuel t cs=some x→Rows.uptoBulk x.1≤1048576→ ∃y,T.rd (HeapI w) cs y∧Wf y
section
variable {α:Type} {P:Program} {T:Ty α} {Wf:α→Prop}
variable {H:Type} {enc:TypeId × Value→H} {w:World} {base:Nat} {spare:Nat→Bool} {held:Bool} {fuel:Nat} {cs:List Value} {x:DataW H × List MemPlace}
theorem OpensN.slice {t e:TypeId} (ht:P.underlying t=some (.slice e)) (he:OpensN P e T Wf) (h:DataW.trod enc P w base spare held fuel t cs=some x) (hb:Rows.uptoBulk x.1≤1048576):
 ∃v l,cs= [v]∧RdS T (HeapI w) v l∧(∀y∈l,Wf y)∧l.length≤1048576:=by
 rcases Go.Deep.open_slice ht h with ⟨rfl,_⟩|⟨a,len,cap,m,n,D,Pl,rfl,_,hl,hm,hmm,rfl,hi⟩
 ·exact ⟨_,[],rfl,RdS.nil _ _,fun _ h=>absurd h (by simp),by simp⟩
 ·have hlm:len≤m:=by rw [hmm];split<;>omega
  simp only [Rows.uptoBulk] at hb
  have hlen:=Xue ((List.range len).map D)
  rw [List.length_map,List.length_range] at hlen
  have hx:∀i:Fin len,∃y,(∃cs',T.rd (HeapI w) cs' y∧ ∀j u,cs'[j]? =some u→w.cell? (a.add (i.1*T.size+j))=some u)∧Wf y:=by
   intro i
   obtain ⟨cs',hc,ht'⟩:=hi i.1 (by omega)
   rw [he.1] at hc
   have hbi:Rows.uptoBulk (D i.1)≤1048576:=by
    have:=Xkw (show D i.1∈(List.range len).map D from List.mem_map.2 ⟨i.1,List.mem_range.2 i.2,rfl⟩)
    omega
   obtain ⟨y,hy,hwf⟩:=he.2.2 ht' hbi
   obtain ⟨_,hcl,hat⟩:=World.cells?_some hc
   refine ⟨y,⟨cs',hy,fun j u hu=> ?_⟩,hwf⟩
   have hj:=(List.getElem?_eq_some_iff.1 hu).1
   rw [←hu,←hat j (by omega),Go.Deep.add_add]
  obtain ⟨f,hf⟩:=Classical.axiomOfChoice hx
  refine ⟨_,List.ofFn f,rfl,⟨some a,cap,by rw [List.length_ofFn],by rw [List.length_ofFn];exact hl,hm,fun h0=> ?_⟩,fun y hy=> ?_,by rw [List.length_ofFn];omega⟩
  ·rw [List.length_ofFn] at h0
   obtain ⟨cs0,h1,h2⟩:=(hf ⟨0,h0⟩).1
   have hlen:=T.len h1
   have hc0:=h2 0 _ (List.getElem?_eq_getElem (by rw [hlen];exact he.2.1))
   have e0:a.add ((⟨0,h0⟩:Fin len).1*T.size+0)=a:=by simp [Addr.add]
   rw [e0] at hc0
   obtain ⟨hs,c,hc,_⟩:=HeapI.of_cell hc0
   obtain ⟨ab,ao,asp⟩:=a
   change asp=none at hs
   subst hs
   change HeapI w ab=some c at hc
   refine ⟨ab,ao,c,rfl,hc,fun i hi=> ?_⟩
   rw [List.length_ofFn] at hi
   obtain ⟨csi,h3,h4⟩:=(hf ⟨i,hi⟩).1
   refine ⟨csi,by rw [List.getElem_ofFn];exact h3,fun j u hu=> ?_⟩
   have h5:=h4 j u hu
   rw [Addr.add_lit] at h5
   obtain ⟨_,c',hc',h6⟩:=HeapI.of_cell h5
   change HeapI w ab=some c' at hc'
   rw [hc] at hc'
   cases hc'
   exact h6
  ·obtain ⟨i,hi,rfl⟩:=List.getElem_of_mem hy
   rw [List.getElem_ofFn]
   exact (hf _).2
theorem OpensN.arg {t e:TypeId} (ht:P.underlying t=some (.slice e)) (he:OpensN P e T Wf) {r:Reach} {b0:Nat} {v:Value} {d:DataW H} {ps:List MemPlace} (hv:Value.okWide P w r b0 t v) (h:DataW.Trod enc P w base spare held t v d ps) (hb:Rows.uptoBulk d≤1048576):
 ∃l,RdS T (HeapI w) v l∧(∀y∈l,Wf y)∧l.length≤1048576:=by
 obtain ⟨fuel,hf⟩:=h
 obtain ⟨v',l,hcs,h1,h2⟩:=he.slice ht hf hb
 obtain ⟨ao,cap,rfl,_⟩:=id h1
 obtain ⟨ao',n',c',rfl⟩:=okWide_slice ht hv
 simp [Value.cells] at hcs
 obtain ⟨rfl,rfl,rfl⟩:=hcs
 exact ⟨l,h1,h2⟩
end
theorem Xh6 {H:Type} {xs:List (DataW H × List MemPlace)} (hb:Rows.uptoBulk (DataW.agg (xs.map (·.1)))≤1048576) {i:Nat} (hi:i<xs.length):Rows.uptoBulk xs[i].1≤1048576:=by
 simp only [Rows.uptoBulk] at hb
 have:=Xkw (show xs[i].1∈xs.map (·.1) from List.mem_map.2 ⟨xs[i],List.getElem_mem hi,rfl⟩)
 omega
def At.N (x:At):Prop:=x.k.length≤1048576∧x.v.length≤1048576
set_option maxRecDepth 100000 in
theorem at_opensN:OpensN Tryz.prog 107 tAt At.N:=by
 refine ⟨by kernel_rfl,by decide,fun {H enc w base spare held fuel cs x} h hb=> ?_⟩
 obtain ⟨xs,n,_,rfl,hl,hxl,hf⟩:=DataW.trod_struct Tryz.underlying107 h
 have hc:Tryz.prog.cellsOf 107=2:=by kernel_rfl
 have c3:Tryz.prog.cellsOf 9=1:=by kernel_rfl
 rw [hc] at hl
 obtain ⟨a,b,rfl⟩:=Xup hl
 simp at hxl
 have h0:=hf 0 _ rfl
 have h1:=hf 1 _ rfl
 rw [List.getElem?_eq_getElem (by omega)] at h0 h1
 have g0:=Xh6 hb (show 0<xs.length by omega)
 have g1:=Xh6 hb (show 1<xs.length by omega)
 simp [c3] at h0 h1
 obtain ⟨s,e0,x0,w0⟩:=DataW.trod_string Tryz.underlying9 h0
 obtain ⟨t,e1,x1,w1⟩:=DataW.trod_string Tryz.underlying9 h1
 rw [x0,Xf7] at g0
 rw [x1,Xf7] at g1
 cases e0;cases e1
 exact ⟨⟨s.data.toList,t.data.toList⟩,rfl,by show s.data.toList.length≤_;omega,by show t.data.toList.length≤_;omega⟩
structure Chg.N (c:Chg):Prop where
 k0: -9223372036854775808≤c.kind
 k1:c.kind≤9223372036854775807
 path:c.path.length≤1048576
 target:c.target.length≤1048576
 nattrs:c.attrs.length≤1048576
 content:c.content.length≤1048576
 attrs:∀x∈c.attrs,x.N
set_option maxRecDepth 100000 in
theorem chg_opensN:OpensN Tryz.prog 25 tChg Chg.N:=by
 refine ⟨by kernel_rfl,by decide,fun {H enc w base spare held fuel cs x} h hb=> ?_⟩
 obtain ⟨xs,n,_,rfl,hl,hxl,hf⟩:=DataW.trod_struct Tryz.underlying25 h
 have hc:Tryz.prog.cellsOf 25=5:=by kernel_rfl
 have c2:Tryz.prog.cellsOf 3=1:=by kernel_rfl
 have c3:Tryz.prog.cellsOf 9=1:=by kernel_rfl
 have c4:Tryz.prog.cellsOf 23=1:=by kernel_rfl
 rw [hc] at hl
 obtain ⟨u0,u1,u2,u3,u4,rfl⟩:=Xt7 hl
 simp at hxl
 have h0:=hf 0 _ rfl
 have h1:=hf 1 _ rfl
 have h2:=hf 2 _ rfl
 have h3:=hf 3 _ rfl
 have h4:=hf 4 _ rfl
 rw [List.getElem?_eq_getElem (by omega)] at h0 h1 h2 h3 h4
 have g1:=Xh6 hb (show 1<xs.length by omega)
 have g2:=Xh6 hb (show 2<xs.length by omega)
 have g3:=Xh6 hb (show 3<xs.length by omega)
 have g4:=Xh6 hb (show 4<xs.length by omega)
 simp [c2,c3,c4] at h0 h1 h2 h3 h4
 obtain ⟨i0,e0,_,w0⟩:=DataW.trod_int Tryz.underlying3 h0
 obtain ⟨s1,e1,x1,w1⟩:=DataW.trod_string Tryz.underlying9 h1
 obtain ⟨v2,l2,e2,r2,m2,n2⟩:=at_opensN.slice Tryz.underlying23 h2 g2
 obtain ⟨s3,e3,x3,w3⟩:=DataW.trod_string Tryz.underlying9 h3
 obtain ⟨s4,e4,x4,w4⟩:=DataW.trod_string Tryz.underlying9 h4
 rw [x1,Xf7] at g1
 rw [x3,Xf7] at g3
 rw [x4,Xf7] at g4
 cases e0;cases e1;cases e2;cases e3;cases e4
 rw [Go.Lit.wf_int_iff] at w0
 have k2:IntKind.i64.min= -9223372036854775808:=rfl
 have k3:IntKind.i64.max=9223372036854775807:=rfl
 refine ⟨⟨i0,s1.data.toList,l2,s3.data.toList,s4.data.toList⟩,⟨u2,rfl,r2⟩,⟨?_,?_,?_,?_,n2,?_,m2⟩⟩
 ·show _≤i0;omega
 ·show i0≤_;omega
 ·show s1.data.toList.length≤_;omega
 ·show s3.data.toList.length≤_;omega
 ·show s4.data.toList.length≤_;omega
structure Rqs.N (r:Rqs):Prop where
 own:r.owner.length≤1048576
 c:r.c.N
set_option maxRecDepth 100000 in
theorem rq_opensN:OpensN Tryz.prog 27 tRq Rqs.N:=by
 refine ⟨by kernel_rfl,by decide,fun {H enc w base spare held fuel cs x} h hb=> ?_⟩
 obtain ⟨xs,n,_,rfl,hl,hxl,hf⟩:=DataW.trod_struct Tryz.underlying27 h
 have hc:Tryz.prog.cellsOf 27=6:=by kernel_rfl
 have c3:Tryz.prog.cellsOf 9=1:=by kernel_rfl
 have c5:Tryz.prog.cellsOf 25=5:=by kernel_rfl
 rw [hc] at hl
 obtain ⟨u0,u1,u2,u3,u4,u5,rfl⟩:=Xuo hl
 simp at hxl
 have h0:=hf 0 _ rfl
 have h1:=hf 1 _ rfl
 rw [List.getElem?_eq_getElem (by omega)] at h0 h1
 have g0:=Xh6 hb (show 0<xs.length by omega)
 have g1:=Xh6 hb (show 1<xs.length by omega)
 simp [c3,c5] at h0 h1
 obtain ⟨s0,e0,x0,w0⟩:=DataW.trod_string Tryz.underlying9 h0
 obtain ⟨c,⟨va,hcs,hva⟩,hN⟩:=chg_opensN.2.2 h1 g1
 rw [x0,Xf7] at g0
 cases e0
 have hcs:[u1,u2,u3,u4,u5]=chgCs c va:=hcs
 injection hcs with q1 hcs
 injection hcs with q2 hcs
 injection hcs with q3 hcs
 injection hcs with q4 hcs
 injection hcs with q5 hcs
 subst q1 q2 q3 q4 q5
 exact ⟨⟨s0.data.toList,c⟩,⟨_,rfl,hva⟩,by show s0.data.toList.length≤_;omega,hN⟩
structure Acc.N (a:Acc):Prop extends a.In where
 own2:a.owner.length≤1048576
set_option maxRecDepth 100000 in
theorem acc_opensN:OpensN Tryz.prog 54 tAcc Acc.N:=by
 refine ⟨by kernel_rfl,by decide,fun {H enc w base spare held fuel cs x} h hb=> ?_⟩
 obtain ⟨xs,n,_,rfl,hl,hxl,hf⟩:=DataW.trod_struct Tryz.underlying54 h
 have hc:Tryz.prog.cellsOf 54=5:=by kernel_rfl
 have c2:Tryz.prog.cellsOf 3=1:=by kernel_rfl
 have c3:Tryz.prog.cellsOf 9=1:=by kernel_rfl
 rw [hc] at hl
 obtain ⟨u0,u1,u2,u3,u4,rfl⟩:=Xt7 hl
 simp at hxl
 have h0:=hf 0 _ rfl
 have h1:=hf 1 _ rfl
 have h2:=hf 2 _ rfl
 have h3:=hf 3 _ rfl
 have h4:=hf 4 _ rfl
 rw [List.getElem?_eq_getElem (by omega)] at h0 h1 h2 h3 h4
 have g0:=Xh6 hb (show 0<xs.length by omega)
 simp [c2,c3] at h0 h1 h2 h3 h4
 obtain ⟨s0,e0,x0,w0⟩:=DataW.trod_string Tryz.underlying9 h0
 obtain ⟨i1,e1,_,w1⟩:=DataW.trod_int Tryz.underlying3 h1
 obtain ⟨i2,e2,_,w2⟩:=DataW.trod_int Tryz.underlying3 h2
 obtain ⟨i3,e3,_,w3⟩:=DataW.trod_int Tryz.underlying3 h3
 obtain ⟨i4,e4,_,w4⟩:=DataW.trod_int Tryz.underlying3 h4
 rw [x0,Xf7] at g0
 cases e0;cases e1;cases e2;cases e3;cases e4
 rw [Go.Lit.wf_int_iff] at w1 w2 w3 w4
 have k2:IntKind.i64.min= -9223372036854775808:=rfl
 have k3:IntKind.i64.max=9223372036854775807:=rfl
 refine ⟨⟨s0.data.toList,i1,i2,i3,i4⟩,rfl,⟨⟨?_,?_,?_,?_,?_,?_,?_,?_,?_⟩,?_⟩⟩
 ·show s0.data.toList.length≤_;omega
 ·show _≤i1;omega
 ·show i1≤_;omega
 ·show _≤i2;omega
 ·show i2≤_;omega
 ·show _≤i3;omega
 ·show i3≤_;omega
 ·show _≤i4;omega
 ·show i4≤_;omega
 ·show s0.data.toList.length≤_;omega
theorem Xco {H:Type} {enc:TypeId × Value→H} {C:Checked} {os:Os} {f:FuncId} {fn:Func} {s:OpenSpec} {conds:List PathCond} {apart:Bool} {laid:List (String × DataW Unit)} (modest:Bool) (w0:World) (args:Array Value) (hos:w0.os=os)
 (hsh:(w0.forCall (fun _ _=>0) ⟨#[],args,[]⟩).Shaped C.prog)
 (hok:Input.okWideB C.prog (w0.forCall (fun _ _=>0) ⟨#[],args,[]⟩) f ⟨#[],args,[]⟩=true)
 (hrow:s.preRow enc C.prog fn conds apart laid (w0.forCall (fun _ _=>0) ⟨#[],args,[]⟩).memory args):
 ∃(w:World) (tape:Tape) (i:Input),w.os=os∧(w.forCall tape i).Shaped C.prog∧i.vars= []∧Input.okWide C.prog (w.forCall tape i) .any w.heap.size f i∧
  s.preRow enc C.prog fn conds apart laid (w.forCall tape i).memory i.args∧({ modest:=modest }:Assume).holds C.prog (lone (Frame.enter C.prog f i.args .normal) [] (w.forCall tape i)):=
 ⟨w0,fun _ _=>0,⟨#[],args,[]⟩,hos,hsh,(Input.okWide_of_okWideB (base:=0) hok).1,(Input.okWide_of_okWideB hok).2,hrow,by
   simp only [Assume.holds]
   exact ⟨by simp,by simp,fun _=>Modest.zero,by simp,by simp⟩⟩
set_option maxRecDepth 100000 in
theorem Xnz {H:Type} {enc:TypeId × Value→H} {w:World} {r:Reach} {b0 base:Nat} {spare:Nat→Bool} {held:Bool} {v:Value} {d:DataW H} {ps:List MemPlace} (hv:Value.okWide Tryz.prog w r b0 27 v) (h:DataW.Trod enc Tryz.prog w base spare held 27 v d ps) (hb:Rows.uptoBulk d≤1048576):
 ∃(q:Rqs) (va:Value),v=rqV q va∧RdS tAt (HeapI w) va q.c.attrs∧q.N:=by
 obtain ⟨cs,rfl,hsz⟩:=okWide_struct Tryz.underlying27 hv
 obtain ⟨fuel,hf⟩:=h
 obtain ⟨q,⟨va,hcs,h1⟩,hN⟩:=rq_opensN.2.2 hf hb
 refine ⟨q,va,?_,h1,hN⟩
 have hcs':cs.toList=rqCs q va:=hcs
 show Value.agg cs=_
 rw [←Array.toArray_toList (xs:=cs),hcs']
theorem Xif:∀ {l:List At},(∀x∈l,x.N)→(l.map fun a=>10+a.k.length+a.v.length).sum≤l.length*2097162
 | [],_=>by simp
 |x::l,h=>by
  have:=Xif (l:=l) (fun y hy=>h y (List.mem_cons_of_mem _ hy))
  obtain ⟨h1,h2⟩:=h x (List.mem_cons_self ..)
  rw [List.map_cons,List.sum_cons,List.length_cons,Nat.add_mul]
  omega
theorem Xng {r:Rqs} (h:r.N):weightR r≤2200000000000:=by
 have:=Xif h.c.attrs
 have h1:=h.own;have h2:=h.c.path;have h3:=h.c.target;have h4:=h.c.content;have h5:=h.c.nattrs
 have h6:=Nat.mul_le_mul_right 2097162 h5
 unfold weightR
 omega
theorem Xk4:∀ {rs:List Rqs},(∀r∈rs,r.N)→rs.length≤1048576→weightP rs≤4611686018427387904:=by
 have key:∀ {rs:List Rqs},(∀r∈rs,r.N)→weightP rs≤rs.length*2200000000000:=by
  intro rs
  induction rs with
  |nil=>intro _;simp [weightP]
  |cons r rs ih=>
   intro h
   have:=ih (fun y hy=>h y (List.mem_cons_of_mem _ hy))
   have hr:=Xng (h r (List.mem_cons_self ..))
   have e:weightP (r::rs)=weightR r+weightP rs:=by simp [weightP]
   rw [e,List.length_cons,Nat.add_mul]
   omega
 intro rs h hl
 have:=key h
 have h2:=Nat.mul_le_mul_right 2200000000000 hl
 omega
end Go.Proofs.YtmdfjnhfhidmhaaGreatDoor
