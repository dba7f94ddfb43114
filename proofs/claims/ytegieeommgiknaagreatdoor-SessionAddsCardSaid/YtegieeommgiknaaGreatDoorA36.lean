/- Lemmas for the claim's theorem;conditions: as each says. -/
import Derived.Test.YtegieeommgiknaaGreatDoorA35
import Derived.Test.YtegieeommgiknaaGreatDoorCards
import Derived.Test.YtegieeommgiknaaGreatDoorTie
import Derived.HandedShaped
import Derived.SizedLaws
import Derived.Shelf.Vars
set_option maxRecDepth 100000
set_option linter.all false
namespace Go.Proofs.YtegieeommgiknaaGreatDoor
open Go.ChangeShapes Go.WideShapes Go.ChangeAt Go.RowKit
variable{P:Program}{w:World}{t:TypeId}{W:World}
theorem own:ownKnob Tryz.prog.godebug=none:=by kernel_rfl
theorem Xsn:laidOutB Tryz.prog=true:=by kernel_rfl
theorem xy:nH Tryz.prog 60 nk At.Wf:=by
 refine⟨by kernel_rfl,by decide,fun{H enc w base spare held fuel cs x} h=> ?_⟩;obtain⟨xs,n,_,_,hl,qo,hf⟩:=DataW.trod_struct Tryz.underlying60 h;have hc:Tryz.prog.cellsOf 60=2:=by kernel_rfl
 have c3:Tryz.prog.cellsOf 9=1:=by kernel_rfl
 rw[hc]at hl;obtain⟨a,b,rfl⟩:=Ue hl;simp at qo;have h0:=hf 0 _ rfl;have h1:=hf 1 _ rfl;rw[List.getElem?_eq_getElem (by omega)]at h0 h1;simp[c3]at h0 h1;obtain⟨s,e0,_,w0⟩:=DataW.trod_string Tryz.underlying9 h0;obtain⟨t,e1,_,w1⟩:=DataW.trod_string Tryz.underlying9 h1;cases e0;cases e1;have k4:maxLen=9223372036854775807:=rfl;have bS:s.data.toList.length=s.size:=Array.length_toList;have htz:t.data.toList.length=t.size:=Array.length_toList;refine⟨⟨s.data.toList,t.data.toList⟩,?_,?_⟩
 ·rfl
 ·exact⟨by show s.data.toList.length≤_;omega,by show t.data.toList.length≤_;omega⟩
theorem Xw0{r:Reach}{b0:Nat}{k:IntKind}{v:Value}(ht:P.underlying t=some (.int k))(hv:Value.okWide P w r b0 t v):∃n:Int,v= .int k n∧k.min≤n∧n≤k.max:=by
 obtain⟨n,rfl⟩:=okWide_int ht hv;simp[Value.okWide,ht,Cell.okWide,Cell.ok,IntKind.has]at hv;exact⟨n,rfl,hv.1,hv.2⟩
theorem Ug{n nm:String}{d:DataW Unit}{r:List (String×DataW Unit)}{g:Nat}{ti:TypeId}{ms:Array (String×TypeId)}
 (h:laidMet P ((n,.iface nm d)::r) W) (hg:P.globalNamed n=some g) (ht:(P.globals[g]?).map (·.type)=some ti) (hi:P.underlying ti=some (.interface ms)):
 ∃tp p,W.var? P n=some #[.iface tp p]:=by
 obtain⟨ps,⟨g0,t0,cs0,f0,p0,q0,Ki,QH,Aj,Kg,_,e0⟩,_,WH⟩:=h;obtain rfl:=Option.some.inj (hg.symm.trans Ki);obtain rfl:=Option.some.inj (ht.symm.trans QH);subst e0;obtain⟨l0⟩:=cs0;obtain⟨f1,u,v,jf,_,_⟩:=iface_of_trod hi Kg;have lv:l0=[.iface u v]:=jf;subst lv;exact⟨u,v,Aj⟩
theorem Xg2(h:laidMetH Tryz.prog Rows.sessionWritesRow.laid W)(Jz:W.ShapedOpen Tryz.prog):fG (eF W):=by
 rw[MakeChecks.laidMetH_plain _ _ _ (by kernel_rfl)]at h;have h2 : Lib.TabIs Tryz.prog W "internal/strconv.uint64pow10" .u64 Lib.pow10Tab :=
  Lib.tabIs_of_head (t:=271) (e:=166) (n:=20) (g:=5) (rest:=(Rows.sessionWritesRow.laid).drop 3) (by kernel_rfl) (by kernel_rfl) Tryz.underlying271 Tryz.underlying166 (by kernel_rfl) (by kernel_rfl) h.tail.tail
 obtain⟨tp1,p1,h3⟩:=Ug (ti:=155) (g:=2) h.tail.tail.tail.tail (by kernel_rfl) (by kernel_rfl) Tryz.underlying155;obtain⟨tp2,p2,h4⟩:=Ug (ti:=155) (g:=1) h.tail.tail.tail.tail.tail (by kernel_rfl) (by kernel_rfl) Tryz.underlying155;obtain⟨m,hm⟩:=cell_of_shapedOpen_int (g:=0) (zero:=#[.int .i64 0]) (t:=3) Jz (of_decide_eq_true (by kernel_rfl)) (by kernel_rfl) rfl (by kernel_rfl) (by kernel_rfl) Tryz.underlying3;obtain⟨_,c,rJ,rH⟩:=eF.of_cell hm;exact⟨eF.tJ (by kernel_rfl) h2,⟨c,m,rJ,rH⟩,⟨tp2,p2,eF.tJ (by kernel_rfl) h4⟩,⟨tp1,p1,eF.tJ (by kernel_rfl) h3⟩⟩
section
variable {H:Type} {enc:TypeId×Value→H}
end
section
variable {H:Type} {enc:TypeId×Value→H}
theorem Xmf{a:Assume}{C:Checked}{os:Os}{f:FuncId}{fn:Func}{s:ChangeSpec}{conds:List PathCond}{apart fresh handsOn again:Bool}{X:World→Array Value→Prop}
 (hX:∀(w w':World) (args:Array Value),w.heap=w'.heap→X w args→X w' args)
 (own:ownKnob C.prog.godebug=none) (started:os.Started) (noInit:C.prog.inits.idxOf? f=none) (Ch:C.prog.funcs[f]?=some fn)
 (witness:∃(w:World) (tape:Tape) (i:Input),w.os=os∧(w.forCall tape i).Shaped C.prog∧i.vars=[]∧Input.okWide C.prog (w.forCall tape i) .any w.heap.size f i∧
   ((s.pre enc C.prog fn conds apart (w.forCall tape i).memory i.args∧X (w.forCall tape i).memory i.args)∧sizedMet enc C.prog fn (OpenSpec.ofChange s) apart (w.forCall tape i).memory i.args)∧a.holds C.prog (lone (Frame.enter C.prog f i.args .normal) [] (w.forCall tape i)))
 (contract:∀(W:World) (base:Nat) (args:Array Value) (ds gs:List (DataW H)) (before:List MemPlace),
   (∀(j:Nat) t v,fn.params[j]?=some t→args[j]?=some v→Value.okWide C.prog W .any base t v)→
   DataW.Whole enc C.prog fn.params.toList s.vars apart W args.toList ds gs before→
   W.ShapedOpen C.prog→X W args→sizedMet enc C.prog fn (OpenSpec.ofChange s) apart W args→
   Calls C.prog f args W fun e W'=> ∃v,e= .returned v∧s.post enc C.prog fn apart fresh handsOn again W args v W'):
 ReturnsInHanded a C os f .any (fun w args=>(s.pre enc C.prog fn conds apart w args∧X w args)∧sizedMet enc C.prog fn (OpenSpec.ofChange s) apart w args) (s.post enc C.prog fn apart fresh handsOn again):=by
 refine returnsInHanded_of_calls own started noInit witness ?_;intro w tape i _ Jz _ iZ wS QI;obtain⟨_,_,_,fn',QJ,_,_,_,_,xW⟩:=iZ;have e:fn'=fn:=Option.some.inj (QJ.symm.trans Ch);subst e;obtain⟨⟨⟨ds,gs,before,hw,hc⟩,hx⟩,hz⟩:=wS;have WI:=DataW.Whole.of_heap (w':=w.forCall tape i) (by rfl) hw;obtain⟨hp2,ds2,gs2,bf2,Kj,Uh⟩:=hz;refine(contract (w.forCall tape i) w.heap.size i.args ds gs before xW WI Jz (hX _ _ _ (by rfl) hx) ⟨hp2,ds2,gs2,bf2,DataW.Whole.of_heap (w':=w.forCall tape i) (by rfl) Kj,Uh⟩).mono fun e W' ⟨v,he,hp⟩=> ?_;subst he;exact ChangeSpec.post_blind hp
end
theorem rQ:nH Tryz.prog 53 xm ic.In:=by
 refine⟨by kernel_rfl,by decide,fun{H enc w base spare held fuel cs x} h=> ?_⟩;obtain⟨xs,n,_,_,hl,qo,hf⟩:=DataW.trod_struct Tryz.underlying53 h;have hc:Tryz.prog.cellsOf 53=5:=by kernel_rfl
 have c2:Tryz.prog.cellsOf 3=1:=by kernel_rfl
 have c3:Tryz.prog.cellsOf 9=1:=by kernel_rfl
 have c4:Tryz.prog.cellsOf 51=1:=by kernel_rfl
 rw[hc]at hl;obtain⟨u0,u1,u2,u3,u4,rfl⟩:=Xyd hl;simp at qo;have h0:=hf 0 _ rfl;have h1:=hf 1 _ rfl;have h2:=hf 2 _ rfl;have h3:=hf 3 _ rfl;have h4:=hf 4 _ rfl;rw[List.getElem?_eq_getElem (by omega)]at h0 h1 h2 h3 h4;simp[c2,c3,c4]at h0 h1 h2 h3 h4;obtain⟨i0,e0,_,w0⟩:=DataW.trod_int Tryz.underlying3 h0;obtain⟨s1,e1,_,w1⟩:=DataW.trod_string Tryz.underlying9 h1;obtain⟨v2,l2,e2,r2,m2⟩:=xy.slice Tryz.underlying51 h2;obtain⟨s3,e3,_,w3⟩:=DataW.trod_string Tryz.underlying9 h3;obtain⟨s4,e4,_,w4⟩:=DataW.trod_string Tryz.underlying9 h4;cases e0;cases e1;cases e2;cases e3;cases e4;rw[Go.Lit.wf_int_iff]at w0;have k2:IntKind.i64.min= -9223372036854775808:=rfl;have k3:IntKind.i64.max=9223372036854775807:=rfl;refine⟨⟨i0,s1.data.toList,l2,s3.data.toList,s4.data.toList⟩,⟨u2,rfl,r2⟩,⟨?_,?_⟩⟩
 ·show _≤i0;omega
 ·show i0≤_;omega
theorem vw:nH Tryz.prog 36 wK og.In:=by
 refine⟨by kernel_rfl,by decide,fun{H enc w base spare held fuel cs x} h=> ?_⟩;obtain⟨xs,n,_,_,hl,qo,hf⟩:=DataW.trod_struct Tryz.underlying36 h;have hc:Tryz.prog.cellsOf 36=2:=by kernel_rfl
 have c2:Tryz.prog.cellsOf 3=1:=by kernel_rfl
 have c4:Tryz.prog.cellsOf 34=1:=by kernel_rfl
 rw[hc]at hl;obtain⟨u0,u1,rfl⟩:=Ue hl;simp at qo;have h0:=hf 0 _ rfl;have h1:=hf 1 _ rfl;rw[List.getElem?_eq_getElem (by omega)]at h0 h1;simp[c2,c4]at h0 h1;obtain⟨i0,e0,_,w0⟩:=DataW.trod_int Tryz.underlying3 h0;obtain⟨v1,l1,e1,r1,m1⟩:=rQ.slice Tryz.underlying34 h1;cases e0;cases e1;rw[Go.Lit.wf_int_iff]at w0;have k2:IntKind.i64.min= -9223372036854775808:=rfl;have k3:IntKind.i64.max=9223372036854775807:=rfl;refine⟨⟨i0,l1⟩,⟨u1,rfl,r1⟩,⟨?_,?_,m1⟩⟩
 ·show _≤i0;omega
 ·show i0≤_;omega
theorem Xnk{H:Type}{enc:TypeId×Value→H}{base:Nat}{spare:Nat→Bool}{held:Bool}{e:TypeId}{ao:Option Addr}{n c:Nat}{d:DataW H}{ps:List MemPlace}{ts:List TypeId}{ds:List (DataW H)}{j:Nat}
 (ht:P.underlying t=some (.slice e)) (h:DataW.Trod enc P w base spare held t (.slice ao n c) d ps) (hs:(DataW.weightsEach P ts ds).all (· ≤reachBytes)=true) (hj:ts[j]?=some t) (hd:ds[j]?=some d):n*P.bytesOf e≤reachBytes:=by
 obtain⟨fuel,hf⟩:=h;rcases DataW.trod_slice ht hf with⟨h1,_⟩|⟨a,len,cap,elems,rest,m,_,h1,h2,_,_,_,hl,_⟩
 ·simp[Value.cells]at h1;obtain⟨_,rfl,_⟩:=h1;simp
 ·simp[Value.cells]at h1;obtain⟨_,rfl,_⟩:=h1;injection h2 with h2 _
  subst h2;have:=sized_slice hs hj hd ht;rw[List.length_map,List.length_map,hl]at this;exact Nat.le_trans (Nat.mul_le_mul_right _ (Nat.le_add_right _ _)) this
