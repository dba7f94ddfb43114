/- Lemmas for the claim's theorem;conditions: as each says. -/
import Derived.ProofKit
import Derived.Deep.Slices
import Derived.Lib.LaidTab
import Derived.LaidMore
import Derived.Lay
import Derived.Stop.Joined
import Derived.Stop.LaidErr
import Derived.Test.YtkipnpjagcfcpaaGreatDoorE08
import Derived.Test.YtkipnpjagcfcpaaGreatDoorCards
import Derived.Test.YtkipnpjagcfcpaaGreatDoorTie
import Derived.HandedShaped
import Derived.Shelf.Vars
set_option maxRecDepth 100000
set_option linter.all false
namespace Go.Proofs.YtkipnpjagcfcpaaGreatDoor
open Go.ChangeShapes Go.WideShapes Go.ChangeAt Go.RowKit
variable{P:Program}{α:Type}{W w:World}{t:TypeId}{g:Nat}{e:TypeId}{r:Reach}{b0:Nat}{v:Value}{H:Type}{W':World}{s:ChangeSpec}
def ic(w:World):IH:=fun b=>match w.heap[b]? with|some (.cells c _ _)=>some c|_=>none
theorem ic.ok(w:World):Ok (ic w) w:=by
 intro b c h;unfold ic at h;split at h
 ·rename_i c' e f hb;cases h;exact⟨e,f,hb⟩
 ·cases h
theorem ic.Ay{name:String}{cs:Array Value}(hg:P.globalNamed name=some g)(h:w.var? P name=some cs):ic w g=some cs:=by
 unfold World.var? at h;rw[hg,Option.bind_some]at h;unfold ic;split at h
 ·rename_i hb;cases h;rw[hb]
 ·cases h
theorem ic.of_cell{a:Addr}{x:Value}(h:w.cell? a=some x):a.spot=none∧ ∃c,ic w a.block=some c∧c[a.off]?=some x:=by
 unfold World.cell? at h;unfold ic;split at h
 ·rename_i c e f hb;split at h
  ·cases h
  ·rename_i hs;refine⟨by cases hsp:a.spot<;>simp_all,c,by rw[hb],h⟩
 ·cases h
def sj{α:Type}(P:Program)(t:TypeId)(T:Ty α)(Wf:α→Prop):Prop:=
 P.cellsOf t=T.size∧0<T.size∧ ∀{H:Type} {enc:TypeId×Value→H} {w:World} {base:Nat} {spare:Nat→Bool} {held:Bool} {fuel:Nat} {cs:List Value} {x:DataW H×List MemPlace},
  DataW.trod enc P w base spare held fuel t cs=some x→ ∃y,T.rd (ic w) cs y∧Wf y
section
variable {α:Type} {P:Program} {T:Ty α} {Wf:α→Prop}
variable {H:Type} {enc:TypeId×Value→H} {w:World} {base:Nat} {spare:Nat→Bool} {held:Bool} {fuel:Nat} {cs:List Value} {x:DataW H×List MemPlace}
theorem sj.slice(ht:P.underlying t=some (.slice e))(he:sj P e T Wf)(h:DataW.trod enc P w base spare held fuel t cs=some x):
 ∃v l,cs=[v]∧bf T (ic w) v l∧ ∀y∈l,Wf y:=by
 rcases Go.Deep.open_slice ht h with⟨rfl,_⟩|⟨a,len,cap,m,n,D,Pl,rfl,_,hl,hm,hmm,_,hi⟩
 ·exact⟨_,[],rfl,bf.nil _ _,fun _ h=>absurd h (by simp)⟩
 ·have mO:len≤m:=by rw[hmm];split<;>omega
  have hx:∀i:Fin len,∃y,(∃cs',T.rd (ic w) cs' y∧ ∀j u,cs'[j]?=some u→w.cell? (a.add (i.1*T.size+j))=some u)∧Wf y:=by
   intro i;obtain⟨cs',hc,ht'⟩:=hi i.1 (by omega);rw[he.1]at hc;obtain⟨y,hy,jh⟩:=he.2.2 ht';obtain⟨_,gI,Vl⟩:=World.cells?_some hc;refine⟨y,⟨cs',hy,fun j u hu=> ?_⟩,jh⟩;have hj:=(List.getElem?_eq_some_iff.1 hu).1;rw[←hu,←Vl j (by omega),Go.Deep.add_add]
  obtain⟨f,hf⟩:=Classical.axiomOfChoice hx;refine⟨_,List.ofFn f,rfl,⟨some a,cap,by rw[List.length_ofFn],by rw[List.length_ofFn];exact hl,hm,fun h0=> ?_⟩,fun y hy=> ?_⟩
  ·rw[List.length_ofFn]at h0;obtain⟨cs0,h1,h2⟩:=(hf ⟨0,h0⟩).1;have hlen:=T.len h1;have nk:=h2 0 _ (List.getElem?_eq_getElem (by rw[hlen];exact he.2.1));have e0:a.add ((⟨0,h0⟩:Fin len).1*T.size+0)=a:=by simp[Addr.add]
   rw[e0]at nk;obtain⟨hs,c,hc,_⟩:=ic.of_cell nk;obtain⟨ab,ao,asp⟩:=a;change asp=none at hs;subst hs;change ic w ab=some c at hc;refine⟨ab,ao,c,rfl,hc,fun i hi=> ?_⟩;rw[List.length_ofFn]at hi;obtain⟨csi,h3,h4⟩:=(hf ⟨i,hi⟩).1;refine⟨csi,by rw[List.getElem_ofFn];exact h3,fun j u hu=> ?_⟩;have h5:=h4 j u hu;rw[Addr.add_lit]at h5;obtain⟨_,c',kQ,h6⟩:=ic.of_cell h5;change ic w ab=some c' at kQ;rw[hc]at kQ;cases kQ;exact h6
  ·obtain⟨i,hi,rfl⟩:=List.getElem_of_mem hy;rw[List.getElem_ofFn];exact(hf _).2
theorem sj.arg(ht:P.underlying t=some (.slice e))(he:sj P e T Wf){d:DataW H}{ps:List MemPlace}(hv:Value.okWide P w r b0 t v)(h:DataW.Trod enc P w base spare held t v d ps):
 ∃l,bf T (ic w) v l∧ ∀y∈l,Wf y:=by
 obtain⟨fuel,hf⟩:=h;obtain⟨v',l,iU,h1,h2⟩:=he.slice ht hf;obtain⟨ao,cap,rfl,_⟩:=id h1;obtain⟨ao',n',c',rfl⟩:=okWide_slice ht hv;simp[Value.cells]at iU;obtain⟨rfl,rfl,rfl⟩:=iU;exact⟨l,h1,h2⟩
end
theorem Xzk:∀{l:List α},l.length=2→ ∃a b,l=[a,b]
 | [a,b],_=>⟨a,b,rfl⟩
theorem Xzj:∀{l:List α},l.length=3→ ∃a b c,l=[a,b,c]
 | [a,b,c],_=>⟨a,b,c,rfl⟩
theorem Xfj{enc:TypeId×Value→H}(hl:laidOutB P=true)(hb:Below W.heap.size W W'):
 ∀{ts:List TypeId} {vs:List Value} {ds:List (DataW H)} {p:List MemPlace},(ts.all fun t=>P.readableRec t&&decide (t<P.types.size))=true→
 DataW.TrodAll enc P W 0 (fun _=>true) true ts vs ds p→(∀x∈p,x.block<W.heap.size)→DataW.TrodAll enc P W' 0 (fun b=>decide (b<W.heap.size)) true ts vs ds p
 | [],[],[],_,_,h,_=>h
 | [],[],_::_,_,_,h,_=>h.elim
 | [],_::_,_,_,_,h,_=>h.elim
 |_::_,[],_,_,_,h,_=>h.elim
 |_::_,_::_,[],_,_,h,_=>h.elim
 |t::ts,v::vs,d::ds,p,ha,h,hlt=>by
  obtain⟨q,r,h1,h2,rfl⟩:=h;simp only[List.all_cons,Bool.and_eq_true,decide_eq_true_eq]at ha;exact⟨q,r,hb.trod hl ha.1.1 ha.1.2 h1 (fun x hx=>hlt x (List.mem_append_left _ hx)),Xfj hl hb ha.2 h2 (fun x hx=>hlt x (List.mem_append_right _ hx)),rfl⟩
theorem Xpp{enc:TypeId×Value→H}(hl:laidOutB P=true){f:Func}{args:Array Value}{ds:List (DataW H)}{before:List MemPlace}{tb:TypeId}
 (hs:s.vars=[]) (hW:DataW.Whole enc P f.params.toList s.vars false W args.toList ds [] before) (hr:f.resultTypes=#[tb]) (hu:P.underlying tb=some .bool)
 (FK:s.fn H (ds++[])={results:=[.lit (.bool true)],args:=ds}) (aB:(f.params.toList.all fun t=>P.readableRec t&&decide (t<P.types.size))=true) (hb:Below W.heap.size W W'):
 s.post enc P f false true false false W args (.bool true) W':=by
 have hlt:∀p∈before,p.block<W.heap.size:=fun p hp=>hW.lt p hp;have Tf:=hW;obtain⟨p,q,hA,hV,rfl,_,_⟩:=Tf;rw[hs]at hV;have hq:q=[]:=hV;subst hq;refine⟨ds,[],_,[],p,[],hW,?_,?_,?_,World.keptBut_mono (fun x hx=>⟨hx,?_⟩) (hb.frame (· ∈p++[])),fun h=>by cases h⟩
 ·rw[FK,hr];exact trodAll_mk1 (shut_bool hu true)
 ·rw[FK];exact Xfj hl hb aB hA (fun x hx=>hlt x (List.mem_append_left _ hx))
 ·rw[FK,hs];rfl
 ·exact .inr (.inl (by simpa using hx))
open Go.ChangeShapes Go.WideShapes Go.ChangeAt Go.RowKit
theorem own:ownKnob Tryz.prog.godebug=none:=by kernel_rfl
theorem laidOut:laidOutB Tryz.prog=true:=by kernel_rfl
theorem Fb:sj Tryz.prog 129 lT At.Wf:=by
 refine⟨by kernel_rfl,by decide,fun{H enc w base spare held fuel cs x} h=> ?_⟩;obtain⟨xs,n,_,_,hl,nL,hf⟩:=DataW.trod_struct Tryz.underlying129 h;have hc:Tryz.prog.cellsOf 129=2:=by kernel_rfl
 have c3:Tryz.prog.cellsOf 9=1:=by kernel_rfl
 rw[hc]at hl;obtain⟨a,b,rfl⟩:=Xzk hl;simp at nL;have h0:=hf 0 _ rfl;have h1:=hf 1 _ rfl;rw[List.getElem?_eq_getElem (by omega)]at h0 h1;simp[c3]at h0 h1;obtain⟨s,e0,_,w0⟩:=DataW.trod_string Tryz.underlying9 h0;obtain⟨t,e1,_,w1⟩:=DataW.trod_string Tryz.underlying9 h1;cases e0;cases e1;have k4:maxLen=9223372036854775807:=rfl;have eU:s.data.toList.length=s.size:=Array.length_toList;have htz:t.data.toList.length=t.size:=Array.length_toList;refine⟨⟨s.data.toList,t.data.toList⟩,?_,?_⟩
 ·rfl
 ·exact⟨by show s.data.toList.length≤_;omega,by show t.data.toList.length≤_;omega⟩
theorem Fe:sj Tryz.prog 110 mr Xt.Wf:=by
 refine⟨by kernel_rfl,by decide,fun{H enc w base spare held fuel cs x} h=> ?_⟩;obtain⟨xs,n,_,_,hl,nL,hf⟩:=DataW.trod_struct Tryz.underlying110 h;have hc:Tryz.prog.cellsOf 110=3:=by kernel_rfl
 have c2:Tryz.prog.cellsOf 3=1:=by kernel_rfl
 rw[hc]at hl;obtain⟨a,b,c,rfl⟩:=Xzj hl;simp at nL;have h0:=hf 0 _ rfl;have h1:=hf 1 _ rfl;have h2:=hf 2 _ rfl;rw[List.getElem?_eq_getElem (by omega)]at h0 h1 h2;simp[c2]at h0 h1 h2;obtain⟨i,e0,_,w0⟩:=DataW.trod_int Tryz.underlying3 h0;obtain⟨j,e1,_,w1⟩:=DataW.trod_int Tryz.underlying3 h1;obtain⟨k,e2,_,w2⟩:=DataW.trod_int Tryz.underlying3 h2;cases e0;cases e1;cases e2;rw[Go.Lit.wf_int_iff]at w0 w1 w2;have k2:IntKind.i64.min= -9223372036854775808:=rfl;have k3:IntKind.i64.max=9223372036854775807:=rfl;refine⟨⟨i,j,k⟩,rfl,⟨?_,?_⟩,⟨?_,?_⟩,⟨?_,?_⟩⟩
 ·show _≤i;omega
 ·show i≤_;omega
 ·show _≤j;omega
 ·show j≤_;omega
 ·show _≤k;omega
 ·show k≤_;omega
theorem Xzh:∀{l:List α},l.length=7→ ∃a b c d e f g,l=[a,b,c,d,e,f,g]
 | [a,b,c,d,e,f,g],_=>⟨a,b,c,d,e,f,g,rfl⟩
theorem CJ:sj Tryz.prog 35 bG aG.Wf:=by
 refine⟨by kernel_rfl,by decide,fun{H enc w base spare held fuel cs x} h=> ?_⟩;obtain⟨xs,n,_,_,hl,nL,hf⟩:=DataW.trod_struct Tryz.underlying35 h;have hc:Tryz.prog.cellsOf 35=7:=by kernel_rfl
 have c2:Tryz.prog.cellsOf 3=1:=by kernel_rfl
 have c3:Tryz.prog.cellsOf 9=1:=by kernel_rfl
 have c4:Tryz.prog.cellsOf 32=1:=by kernel_rfl
 have c5:Tryz.prog.cellsOf 33=1:=by kernel_rfl
 rw[hc]at hl;obtain⟨u0,u1,u2,u3,u4,u5,u6,rfl⟩:=Xzh hl;simp at nL;have h0:=hf 0 _ rfl;have h1:=hf 1 _ rfl;have h2:=hf 2 _ rfl;have h3:=hf 3 _ rfl;have h4:=hf 4 _ rfl;have h5:=hf 5 _ rfl;have h6:=hf 6 _ rfl;rw[List.getElem?_eq_getElem (by omega)]at h0 h1 h2 h3 h4 h5 h6;simp[c2,c3,c4,c5]at h0 h1 h2 h3 h4 h5 h6;obtain⟨i0,e0,_,w0⟩:=DataW.trod_int Tryz.underlying3 h0;obtain⟨s1,e1,_,w1⟩:=DataW.trod_string Tryz.underlying9 h1;obtain⟨v2,l2,e2,r2,m2⟩:=Fb.slice Tryz.underlying32 h2;obtain⟨s3,e3,_,w3⟩:=DataW.trod_string Tryz.underlying9 h3;obtain⟨i4,e4,_,w4⟩:=DataW.trod_int Tryz.underlying3 h4;obtain⟨s5,e5,_,w5⟩:=DataW.trod_string Tryz.underlying9 h5;obtain⟨v6,l6,e6,r6,m6⟩:=Fe.slice Tryz.underlying33 h6;cases e0;cases e1;cases e2;cases e3;cases e4;cases e5;cases e6;rw[Go.Lit.wf_int_iff]at w0 w4;have k2:IntKind.i64.min= -9223372036854775808:=rfl;have k3:IntKind.i64.max=9223372036854775807:=rfl;have k4:maxLen=9223372036854775807:=rfl;have z1:s1.data.toList.length=s1.size:=Array.length_toList;have z3:s3.data.toList.length=s3.size:=Array.length_toList;have z5:s5.data.toList.length=s5.size:=Array.length_toList;refine⟨⟨i0,s1.data.toList,l2,s3.data.toList,i4,s5.data.toList,l6⟩,⟨u2,u6,rfl,r2,r6⟩,?_,?_,?_,m2,?_,?_,?_,?_,m6⟩
 ·show _≤i0;omega
 ·show i0≤_;omega
 ·show s1.data.toList.length≤_;omega
 ·show s3.data.toList.length≤_;omega
 ·show _≤i4;omega
 ·show i4≤_;omega
 ·show s5.data.toList.length≤_;omega
theorem Xzi:∀{l:List α},l.length=6→ ∃a b c d e f,l=[a,b,c,d,e,f]
 | [a,b,c,d,e,f],_=>⟨a,b,c,d,e,f,rfl⟩
theorem wz:sj Tryz.prog 62 lL bR.Wf:=by
 refine⟨by kernel_rfl,by decide,fun{H enc w base spare held fuel cs x} h=> ?_⟩;obtain⟨xs,n,_,_,hl,nL,hf⟩:=DataW.trod_struct Tryz.underlying62 h;have hc:Tryz.prog.cellsOf 62=6:=by kernel_rfl
 have c2:Tryz.prog.cellsOf 3=1:=by kernel_rfl
 have c3:Tryz.prog.cellsOf 9=1:=by kernel_rfl
 have c4:Tryz.prog.cellsOf 60=1:=by kernel_rfl
 rw[hc]at hl;obtain⟨u0,u1,u2,u3,u4,u5,rfl⟩:=Xzi hl;simp at nL;have h0:=hf 0 _ rfl;have h1:=hf 1 _ rfl;have h2:=hf 2 _ rfl;have h3:=hf 3 _ rfl;have h4:=hf 4 _ rfl;have h5:=hf 5 _ rfl;rw[List.getElem?_eq_getElem (by omega)]at h0 h1 h2 h3 h4 h5;simp[c2,c3,c4]at h0 h1 h2 h3 h4 h5;obtain⟨i0,e0,_,w0⟩:=DataW.trod_int Tryz.underlying3 h0;obtain⟨i1,e1,_,w1⟩:=DataW.trod_int Tryz.underlying3 h1;obtain⟨s2,e2,_,w2⟩:=DataW.trod_string Tryz.underlying9 h2;obtain⟨v3,l3,e3,r3,m3⟩:=CJ.slice Tryz.underlying60 h3;obtain⟨s4,e4,_,w4⟩:=DataW.trod_string Tryz.underlying9 h4;obtain⟨s5,e5,_,w5⟩:=DataW.trod_string Tryz.underlying9 h5;cases e0;cases e1;cases e2;cases e3;cases e4;cases e5;rw[Go.Lit.wf_int_iff]at w0 w1;have k2:IntKind.i64.min= -9223372036854775808:=rfl;have k3:IntKind.i64.max=9223372036854775807:=rfl;refine⟨⟨i0,i1,s2.data.toList,l3,s4.data.toList,s5.data.toList⟩,⟨u3,rfl,r3⟩,⟨?_,?_⟩,⟨?_,?_⟩,m3⟩
 ·show _≤i0;omega
 ·show i0≤_;omega
 ·show _≤i1;omega
 ·show i1≤_;omega
theorem U9{k:IntKind}(ht:P.underlying t=some (.int k))(hv:Value.okWide P w r b0 t v):∃n:Int,v= .int k n∧k.min≤n∧n≤k.max:=by
 obtain⟨n,rfl⟩:=okWide_int ht hv;simp[Value.okWide,ht,Cell.okWide,Cell.ok,IntKind.has]at hv;exact⟨n,rfl,hv.1,hv.2⟩
theorem Xj0{n nm:String}{d:DataW Unit}{r:List (String×DataW Unit)}{ti:TypeId}{ms:Array (String×TypeId)}
 (h:laidMet P ((n,.iface nm d)::r) W) (hg:P.globalNamed n=some g) (ht:(P.globals[g]?).map (·.type)=some ti) (hi:P.underlying ti=some (.interface ms)):
 ∃tp p,W.var? P n=some #[.iface tp p]:=by
 obtain⟨ps,⟨g0,t0,cs0,f0,p0,q0,Sr,Sm,tJ,OM,_,e0⟩,_,ahh⟩:=h;obtain rfl:=Option.some.inj (hg.symm.trans Sr);obtain rfl:=Option.some.inj (ht.symm.trans Sm);subst e0;obtain⟨l0⟩:=cs0;obtain⟨f1,u,v,iU,_,_⟩:=iface_of_trod hi OM;have lN:l0=[.iface u v]:=iU;subst lN;exact⟨u,v,tJ⟩
theorem Xg6(h:laidMetH Tryz.prog Rows.exportResultsRow.laid W)(Nj:W.ShapedOpen Tryz.prog):dQ (ic W):=by
 rw[MakeChecks.laidMetH_plain _ _ _ (by kernel_rfl)]at h;have h2 : Lib.TabIs Tryz.prog W "internal/strconv.uint64pow10" .u64 Lib.pow10Tab :=
  Lib.tabIs_of_head (t:=317) (e:=23) (n:=20) (g:=3) (rest:=(Rows.exportResultsRow.laid).drop 3) (by kernel_rfl) (by kernel_rfl) Tryz.underlying317 Tryz.underlying23 (by kernel_rfl) (by kernel_rfl) h.tail.tail
 obtain⟨tp1,p1,h3⟩:=Xj0 (ti:=73) (g:=2) h.tail.tail.tail.tail (by kernel_rfl) (by kernel_rfl) Tryz.underlying73;obtain⟨tp2,p2,h4⟩:=Xj0 (ti:=73) (g:=1) h.tail.tail.tail.tail.tail (by kernel_rfl) (by kernel_rfl) Tryz.underlying73;obtain⟨m,hm⟩:=cell_of_shapedOpen_int (g:=0) (zero:=#[.int .i64 0]) (t:=3) Nj (of_decide_eq_true (by kernel_rfl)) (by kernel_rfl) rfl (by kernel_rfl) (by kernel_rfl) Tryz.underlying3;obtain⟨_,c,qW,xJ⟩:=ic.of_cell hm;exact⟨ic.Ay (by kernel_rfl) h2,⟨c,m,qW,xJ⟩,⟨tp2,p2,ic.Ay (by kernel_rfl) h4⟩,⟨tp1,p1,ic.Ay (by kernel_rfl) h3⟩⟩
section
variable {H:Type} {enc:TypeId×Value→H}
theorem Xf4{a:Assume}{C:Checked}{os:Os}{f:FuncId}{fn:Func}{conds:List PathCond}{apart fresh handsOn again:Bool}{X:World→Array Value→Prop}
 (hX:∀(w w':World) (args:Array Value),w.heap=w'.heap→X w args→X w' args)
 (own:ownKnob C.prog.godebug=none) (started:os.Started) (noInit:C.prog.inits.idxOf? f=none) (FK:C.prog.funcs[f]?=some fn)
 (witness:∃(w:World) (tape:Tape) (i:Input),w.os=os∧(w.forCall tape i).Shaped C.prog∧i.vars=[]∧Input.okWide C.prog (w.forCall tape i) .any w.heap.size f i∧
   ((s.pre enc C.prog fn conds apart (w.forCall tape i).memory i.args∧X (w.forCall tape i).memory i.args)∧sizedMet enc C.prog fn (OpenSpec.ofChange s) apart (w.forCall tape i).memory i.args)∧a.holds C.prog (lone (Frame.enter C.prog f i.args .normal) [] (w.forCall tape i)))
 (contract:∀(W:World) (base:Nat) (args:Array Value) (ds gs:List (DataW H)) (before:List MemPlace),
   (∀(j:Nat) t v,fn.params[j]?=some t→args[j]?=some v→Value.okWide C.prog W .any base t v)→
   DataW.Whole enc C.prog fn.params.toList s.vars apart W args.toList ds gs before→
   W.ShapedOpen C.prog→X W args→
   Calls C.prog f args W fun e W'=> ∃v,e= .returned v∧s.post enc C.prog fn apart fresh handsOn again W args v W'):
 ReturnsInHanded a C os f .any (fun w args=>(s.pre enc C.prog fn conds apart w args∧X w args)∧sizedMet enc C.prog fn (OpenSpec.ofChange s) apart w args) (s.post enc C.prog fn apart fresh handsOn again):=by
 refine returnsInHanded_of_calls own started noInit witness ?_;intro w tape i _ Nj _ gG Mw aaY;obtain⟨_,_,_,fn',aaZ,_,_,_,_,oI⟩:=gG;have e:fn'=fn:=Option.some.inj (aaZ.symm.trans FK);subst e;obtain⟨⟨⟨ds,gs,before,hw,hc⟩,hx⟩,hz⟩:=Mw;have Z6:=DataW.Whole.of_heap (w':=w.forCall tape i) (by rfl) hw;refine(contract (w.forCall tape i) w.heap.size i.args ds gs before oI Z6 Nj (hX _ _ _ (by rfl) hx)).mono fun e W' ⟨v,he,hp⟩=> ?_;subst he;exact ChangeSpec.post_blind hp
end
