/- Lemmas for the claim's theorem;conditions: as each says. -/
import Derived.Test.YtmdfjnhfhidmhaaGreatDoorJ40
import Derived.ProofKit
import Derived.Deep.Slices
import Derived.Lib.LaidTab
import Derived.LaidMore
import Derived.Lay
import Derived.Stop.Joined
import Derived.Stop.LaidErr
import Derived.Test.YtmdfjnhfhidmhaaGreatDoorCards
import Derived.Test.YtmdfjnhfhidmhaaGreatDoorTie
import Derived.HandedShaped
import Derived.SizedLaws
import Derived.Shelf.Vars
import Derived.Deep.DeepHandedRow
set_option maxHeartbeats 0
set_option maxRecDepth 100000
set_option linter.all false
namespace Go.Proofs.YtmdfjnhfhidmhaaGreatDoor
open Go.RowKit
variable{H:Type}{P:Program}{W w:World}{α:Type}{t:TypeId}{d:DataW H}{rs:List jG}{r:jG}{g:Nat}{W':World}{ds:List (DataW H)}{b0:Nat}{v:Value}{e:TypeId}
theorem Xw3(h:r∈rs):jV r≤bN rs:=by
 obtain⟨A,B,rfl⟩:=List.append_of_mem h;simp[bN];omega
theorem Xvd:∀rs:List jG,rs.length*10≤bN rs
 | []=>by simp
 |r::rs=>by
  have:=Xvd rs;have e:bN (r::rs)=jV r+bN rs:=by simp[bN]
  have h:10≤jV r:=by unfold jV;omega
  rw[e,List.length_cons];omega
theorem Xvn{l:List At}{x:At}(h:x∈l):10+x.k.length+x.v.length≤(l.map fun a=>10+a.k.length+a.v.length).sum:=by
 obtain⟨A,B,rfl⟩:=List.append_of_mem h;simp;omega
theorem Xqb:∀l:List At,l.length*10≤(l.map fun a=>10+a.k.length+a.v.length).sum
 | []=>by simp
 |x::l=>by
  have:=Xqb l;rw[List.map_cons,List.sum_cons,List.length_cons];omega
def KIn(rs:List jG):Prop:=∀r∈rs,-9223372036854775808≤r.c.au∧r.c.au≤9223372036854775807
theorem Xw4(hk:KIn rs)(h:bN rs≤1500):(∀r∈rs,r.c.Wf∧r.c.aj.length≤1000000)∧rs.length≤150:=by
 refine⟨fun r hr=> ?_,by have:=Xvd rs;omega⟩;have hw:=Nat.le_trans (Xw3 hr) h;have ha:=Xqb r.c.aj;unfold jV at hw;exact⟨⟨(hk r hr).1,(hk r hr).2,by omega,fun x hx=>by have:=Xvn hx;exact⟨by omega,by omega⟩,by omega,by omega⟩,by omega⟩
theorem Xsp(aG:Int):zA aG []=if gY [] aG≠0 then(zh,false)else(jT [] aG,true):=rfl
theorem Xhn(I:IH)(hI:eG I)(v:Value)(l:List Acc)(hv:aZ iY I v l)(hl:∀a∈l,a.In)(vr:Value)(rs:List jG)(wP:aZ CJ I vr rs)(hk:KIn rs)(hwt:bN rs≤4611686018427387904)(aG:Int)(w:World)(hw:Ok I w):
 Calls Tryz.prog 4 #[v,vr,.int .i64 aG] w fun e w'=>e= .returned (.bool true)∧Below w.heap.size w w':=by
 have We:=Qh (fun J (hk:∀b c,I b=some c→J b=some c) w hw=>Xrt J (hI.mono hk) w hw);have A0:=Qh (mH.start hw);have HG:=Qh hI;have hb:=Xrs I hI aG (.slice none 0 0) [] (aZ.nil _ _) (fun c h=>by cases h) (by decide) w hw;have Hgr:=Qh (fun J (hk:∀b c,I b=some c→J b=some c) w hw=>Xrr J v l (hv.mono hk) vr rs (wP.mono hk) hwt w hw);have mg:=Qh (fun J (hk:∀b c,I b=some c→J b=some c) w hw=>Xrc J v l (hv.mono hk) (fun a ha=>(hl a ha).own) w hw);have Hv:=Qh hv;have BS:=Qh wP;have Hl:=Qh hl;have Hk:=Qh hk;obtain⟨dB,okB,GH⟩:∃dB okB,zA aG []=(dB,okB):=⟨_,_,rfl⟩;rw[GH]at hb;dsimp only at hb;have HB:=Qh hb;have Js:=Qh GH;obtain⟨ao,cap,rfl,_,_,_⟩:=id hv;obtain⟨ro,Bl,rfl,_,_,_⟩:=id wP;clear hI hv hl wP hk hb GH hwt;go_enter Tryz.func4,Tryz.ntmps4
 go_wp2_with fail
 refine(HB.O).mono ?_;rintro e1 w1 ⟨ve1,vk1,vt1,vh1,J1,rfl,aD,gu,aM,eU⟩;obtain⟨vS,vT,rfl,_,_,_⟩:=id eU.aB;obtain⟨vU,ck1,rfl,_,_,_⟩:=id eU.aJ;obtain⟨um,vV,rfl,_,_,_⟩:=id eU.aI;obtain⟨vW,vX,rfl,_,_,_⟩:=id eU.holds
 go_upto_region 2 with(
  refine kC rfl rfl 43 _ _ rfl w1.heap.size 0 (dz dB (.slice vS dB.aB.length vT) (.slice vU dB.aU.aJ.length ck1) (.slice um dB.aI.length vV) (.slice vW dB.holds.length vX)) (gU dB (.slice vS dB.aB.length vT) (.slice vU dB.aU.aJ.length ck1) (.slice um dB.aI.length vV) (.slice vW dB.holds.length vX)) (by simp[Act.eval]) (by simp[Act.eval]) (by rfl) bE 43 (heap_alloc_new _ _) (by simp) (by kernel_rfl) (by simp[Value.oneCell']) (dz dB (.slice vS dB.aB.length vT) (.slice vU dB.aU.aJ.length ck1) (.slice um dB.aI.length vV) (.slice vW dB.holds.length vX)).toArray (by rfl) ?_;intro w2 hg2 kD)
 have aL:Below w1.heap.size w1 w2:=((Qb _ _).alloc (Qn _) _).grown hg2 (by simp) (fun k e=>by injection e with e;omega);have Lj:J1 w1.heap.size=none:=aM.fresh (Qn _);have A2:=Qh ((A0.O.ext aD gu aM).quiet aL);have D2:=Qh (show xg J1 w2 w1.heap.size dB _ _ _ _ from⟨A2.O.ok,Lj,eU,kD⟩);clear aD gu aM eU hg2 kD aL Lj A0 HB;generalize w1.heap.size=B at D2 ⊢;by_cases q:gY [] aG=0;case neg=>
  obtain⟨e1,rfl⟩:=Prod.mk.inj (Js.O.symm.trans ((Xsp aG).trans (if_pos q)));clear e1 q Js;go_wp2_with fail
  refine(We.O _ A2.O.keep _ A2.O.ok).mono ?_;rintro e9 w9 ⟨rfl,gP⟩;have A9:=Qh (A2.O.quiet gP);go_wp2;go_ret;exact⟨rfl,A9.O.eY⟩
 obtain⟨e1,rfl⟩:=Prod.mk.inj (Js.O.symm.trans ((Xsp aG).trans (if_neg (fun h=>h q))));have Ad:=Qh (show lv 0 dB by rw[e1];exact YV Rp (by decide) (by decide) q);clear q Js e1;go_wp2_with fail
 refine(Hgr.O _ A2.O.keep _ A2.O.ok).mono ?_;rintro e3 w3 ⟨rfl,dX⟩;have A3:=Qh (A2.O.quiet dX);have D3:=Qh (D2.O.below dX);clear dX A2 D2 Hgr;by_cases g:12<l.length∨1500<bN rs
 ·rw[Qt g];clear g;go_wp2_with fail
  refine(We.O _ A3.O.keep _ A3.O.ok).mono ?_;rintro e9 w9 ⟨rfl,gP⟩;have A9:=Qh (A3.O.quiet gP);go_wp2;go_ret;exact⟨rfl,A9.O.eY⟩
 rw[Qf g];go_wp2_with fail
 refine(mg.O _ A3.O.keep _ A3.O.ok).mono ?_;rintro e4 w4 ⟨rfl,aR⟩;have A4:=Qh (A3.O.quiet aR);have D4:=Qh (D3.O.below aR);clear aR A3 D3 mg;by_cases h0:gZ l=0;case neg=>
  have i1:(gZ l !=0)=true:=by simpa using h0
  clear h0 g;go_wp2_with fail
  refine(We.O _ A4.O.keep _ A4.O.ok).mono ?_;rintro e9 w9 ⟨rfl,gP⟩;have A9:=Qh (A4.O.quiet gP);go_wp2;go_ret;exact⟨rfl,A9.O.eY⟩
 have i1:(gZ l !=0)=false:=by simp[h0]
 have Hf:=Qh (show gH l from⟨oN.of h0,fun a ha=>(Hl.O a ha).b1,fun a ha=>(Hl.O a ha).f1,by omega⟩);have Jg:=Qh (Xw4 Hk.O (show bN rs≤1500 by omega));have En:=Xk5 J1 (HG.O.mono A4.O.keep) dB Ad.O _ _ _ _ D4.O.rd _ l (Hv.O.mono A4.O.keep) Hf.O _ rs (BS.O.mono A4.O.keep) Jg.O.1 Jg.O.2 w4 A4.O.ok;have DR:=(fun J5 (h5:∀b c,J1 b=some c→J5 b=some c) w hw=>Xpl J5 dB Ad.O _ _ _ _ (D4.O.rd.mono h5) _ l (Hv.O.mono (fun b c h=>h5 b c (A4.O.keep b c h))) Hf.O _ rs (BS.O.mono (fun b c h=>h5 b c (A4.O.keep b c h))) Jg.O.1 Jg.O.2 w hw);obtain⟨s,hs⟩:∃s,vB dB l rs=s:=⟨_,rfl⟩;rw[hs]at En DR;have Kc:=Qh En;have Ko:=Qh DR;obtain⟨b0,b1,b2,b3,b4,b5,b6,b7,b8⟩:=drB_row (d:=dB) D4.O.row;clear h0 g hs En DR Ad;go_wp2_with fail
 refine(Kc.O).mono ?_;rintro e5 w5 ⟨ve5,vk5,vt5,vh5,va5,vs5,J5,rfl,bM,Ah,dL,mY,NM,NN⟩;obtain⟨zC,zD,rfl,_,_,_⟩:=id mY.aB;obtain⟨zF,zG,rfl,_,_,_⟩:=id mY.aJ;obtain⟨xM,zH,rfl,_,_,_⟩:=id mY.aI;obtain⟨zI,zJ,rfl,_,_,_⟩:=id mY.holds;obtain⟨aa5,ca5,rfl,_,_,_⟩:=id NM;obtain⟨as5,cs5,rfl,_,_,_⟩:=id NN
 go_upto_region 5 with(
  refine kC rfl rfl 43 _ _ rfl w5.heap.size 0 (dz s.d (.slice zC s.d.aB.length zD) (.slice zF s.d.aU.aJ.length zG) (.slice xM s.d.aI.length zH) (.slice zI s.d.holds.length zJ)) (gU s.d (.slice zC s.d.aB.length zD) (.slice zF s.d.aU.aJ.length zG) (.slice xM s.d.aI.length zH) (.slice zI s.d.holds.length zJ)) (by simp[Act.eval]) (by simp[Act.eval]) (by rfl) bE 43 (heap_alloc_new _ _) (by simp) (by kernel_rfl) (by simp[Value.oneCell']) (dz s.d (.slice zC s.d.aB.length zD) (.slice zF s.d.aU.aJ.length zG) (.slice xM s.d.aI.length zH) (.slice zI s.d.holds.length zJ)).toArray (by rfl) ?_;intro w6 Cz tC)
 have fF:Below w5.heap.size w5 w6:=((Qb _ _).alloc (Qn _) _).grown Cz (by simp) (fun k e=>by injection e with e;omega);have VW:J5 w5.heap.size=none:=dL.fresh (Qn _);have HK5:=Qh (fun b c h=>Ah.keep A4.O.ok (Qn _) b c h);have A6:=Qh ((A4.O.ext bM Ah dL).quiet fF);have D6:=Qh ((D4.O.ext bM Ah dL).below fF);have E6:=Qh (show xg J5 w6 w5.heap.size s.d _ _ _ _ from⟨A6.O.ok,VW,mY,tC⟩);have HA6:=Qh NM;have HS6:=Qh NN;clear bM Ah dL mY NM NN Cz tC fF VW A4 D4 Kc b0 b1 b2 b3 b4 b5 b6 b7 b8;generalize w5.heap.size=B6 at E6 ⊢;obtain⟨b0,b1,b2,b3,b4,b5,b6,b7,b8⟩:=drB_row (d:=dB) D6.O.row;go_wp2_with fail
 refine(Ko.O J5 HK5.O w6 A6.O.ok).mono ?_;rintro e7 w7 ⟨ve7,vk7,vt7,vh7,va7,vs7,J7,rfl,ji,wN,iP,DD,NP,NQ⟩;obtain⟨ae7,ce7,rfl,_,_,_⟩:=id DD.aB;obtain⟨ak7,ck7,rfl,_,_,_⟩:=id DD.aJ;obtain⟨VQ,VR,rfl,_,_,_⟩:=id DD.aI;obtain⟨ah7,ch7,rfl,_,_,_⟩:=id DD.holds;obtain⟨aa7,ca7,rfl,_,_,_⟩:=id NP;obtain⟨as7,cs7,rfl,_,_,_⟩:=id NQ
 go_upto_region 6 with(
  refine kC rfl rfl 43 _ _ rfl w7.heap.size 0 (dz s.d (.slice ae7 s.d.aB.length ce7) (.slice ak7 s.d.aU.aJ.length ck7) (.slice VQ s.d.aI.length VR) (.slice ah7 s.d.holds.length ch7)) (gU s.d (.slice ae7 s.d.aB.length ce7) (.slice ak7 s.d.aU.aJ.length ck7) (.slice VQ s.d.aI.length VR) (.slice ah7 s.d.holds.length ch7)) (by simp[Act.eval]) (by simp[Act.eval]) (by rfl) bE 43 (heap_alloc_new _ _) (by simp) (by kernel_rfl) (by simp[Value.oneCell']) (dz s.d (.slice ae7 s.d.aB.length ce7) (.slice ak7 s.d.aU.aJ.length ck7) (.slice VQ s.d.aI.length VR) (.slice ah7 s.d.holds.length ch7)).toArray (by rfl) ?_;intro w8 qN SH)
 have mR:Below w7.heap.size w7 w8:=((Qb _ _).alloc (Qn _) _).grown qN (by simp) (fun k e=>by injection e with e;omega);have hf7:J7 w7.heap.size=none:=iP.fresh (Qn _);have HK7:=Qh (fun b c h=>wN.keep A6.O.ok (Qn _) b c h);have A8:=Qh ((A6.O.ext ji wN iP).quiet mR);have E8:=Qh ((E6.O.ext ji wN iP).below mR);have F8:=Qh (show xg J7 w8 w7.heap.size s.d _ _ _ _ from⟨A8.O.ok,hf7,DD,SH⟩);have HA8:=Qh (And.intro (HA6.O.mono HK7.O) NP);have HS8:=Qh (And.intro (HS6.O.mono HK7.O) NQ);clear ji wN iP DD NP NQ qN SH mR hf7 A6 D6 E6 Ko HK5 HK7 HA6 HS6 b0 b1 b2 b3 b4 b5 b6 b7 b8;generalize w7.heap.size=B8 at F8 ⊢;obtain⟨b0,b1,b2,b3,b4,b5,b6,b7,b8⟩:=drB_row (d:=s.d) E8.O.row;obtain⟨c0,c1,c2,c3,c4,c5,c6,c7,c8⟩:=drB_row (d:=s.d) F8.O.row;go_wp2_with fail
 refine(Xjr J7 s.d _ _ _ _ _ _ _ _ E8.O.rd F8.O.rd w8 A8.O.ok).mono ?_;rintro e10 oF ⟨rfl,mE⟩;have A10:=Qh (A8.O.quiet mE);clear mE A8 E8 F8 b0 b1 b2 b3 b4 b5 b6 b7 b8 c0 c1 c2 c3 c4 c5 c6 c7 c8;go_wp2_with fail
 refine(Xty J7 _ _ s.l HA8.O.1 HA8.O.2 oF A10.O.ok).mono ?_;rintro e11 wJ ⟨rfl,oO⟩;have A11:=Qh (A10.O.quiet oO);clear oO A10;go_wp2_with fail
 refine(Xeh J7 _ _ s.es HS8.O.1 HS8.O.2 wJ A11.O.ok).mono ?_;rintro e12 VJ ⟨rfl,xZ⟩;have A12:=Qh (A11.O.quiet xZ);clear xZ A11;go_wp2_with fail
 refine(We.O _ A12.O.keep _ A12.O.ok).mono ?_;rintro e9 w9 ⟨rfl,gP⟩;have A9:=Qh (A12.O.quiet gP);go_wp2;go_ret;exact⟨rfl,A9.O.eY⟩
open Go.ChangeShapes Go.WideShapes Go.ChangeAt Go.RowKit
def il(w:World):IH:=fun b=>match w.heap[b]? with|some (.cells c _ _)=>some c|_=>none
theorem il.ok(w:World):Ok (il w) w:=by
 intro b c h;unfold il at h;split at h
 ·rename_i c' e f hb;cases h;exact⟨e,f,hb⟩
 ·cases h
theorem il.Bn{name:String}{cs:Array Value}(hg:P.globalNamed name=some g)(h:w.var? P name=some cs):il w g=some cs:=by
 unfold World.var? at h;rw[hg,Option.bind_some]at h;unfold il;split at h
 ·rename_i hb;cases h;rw[hb]
 ·cases h
theorem il.of_cell{a:Addr}{x:Value}(h:w.cell? a=some x):a.spot=none∧ ∃c,il w a.block=some c∧c[a.off]?=some x:=by
 unfold World.cell? at h;unfold il;split at h
 ·rename_i c e f hb;split at h
  ·cases h
  ·rename_i hs;refine⟨by cases hsp:a.spot<;>simp_all,c,by rw[hb],h⟩
 ·cases h
def ahZ{α:Type}(P:Program)(t:TypeId)(T:Ty α)(Wf:α→Prop):Prop:=
 P.cellsOf t=T.size∧0<T.size∧ ∀{H:Type} {enc:TypeId×Value→H} {w:World} {base:Nat} {spare:Nat→Bool} {held:Bool} {fuel:Nat} {cs:List Value} {x:DataW H×List MemPlace},
  DataW.trod enc P w base spare held fuel t cs=some x→ ∃y,T.rd (il w) cs y∧Wf y
section
variable {α:Type} {P:Program} {T:Ty α} {Wf:α→Prop}
variable {H:Type} {enc:TypeId×Value→H} {w:World} {base:Nat} {spare:Nat→Bool} {held:Bool} {fuel:Nat} {cs:List Value} {x:DataW H×List MemPlace}
end
theorem Xx0:∀{l:List α},l.length=2→ ∃a b,l=[a,b]
 | [a,b],_=>⟨a,b,rfl⟩
theorem Xxc:∀{l:List α},l.length=5→ ∃a b c d e,l=[a,b,c,d,e]
 | [a,b,c,d,e],_=>⟨a,b,c,d,e,rfl⟩
theorem Xex{enc:TypeId×Value→H}(hl:laidOutB P=true)(hb:Below W.heap.size W W'):
 ∀{ts:List TypeId} {vs:List Value} {ds:List (DataW H)} {p:List MemPlace},(ts.all fun t=>P.readableRec t&&decide (t<P.types.size))=true→
 DataW.TrodAll enc P W 0 (fun _=>true) true ts vs ds p→(∀x∈p,x.block<W.heap.size)→DataW.TrodAll enc P W' 0 (fun b=>decide (b<W.heap.size)) true ts vs ds p
 | [],[],[],_,_,h,_=>h
 | [],[],_::_,_,_,h,_=>h.elim
 | [],_::_,_,_,_,h,_=>h.elim
 |_::_,[],_,_,_,h,_=>h.elim
 |_::_,_::_,[],_,_,h,_=>h.elim
 |t::ts,v::vs,d::ds,p,ha,h,hlt=>by
  obtain⟨q,r,h1,h2,rfl⟩:=h;simp only[List.all_cons,Bool.and_eq_true,decide_eq_true_eq]at ha;exact⟨q,r,hb.trod hl ha.1.1 ha.1.2 h1 (fun x hx=>hlt x (List.mem_append_left _ hx)),Xex hl hb ha.2 h2 (fun x hx=>hlt x (List.mem_append_right _ hx)),rfl⟩
theorem Xt6{enc:TypeId×Value→H}(hl:laidOutB P=true){f:Func}{s:ChangeSpec}{args:Array Value}{before:List MemPlace}{tb:TypeId}
 (hs:s.vars=[]) (hW:DataW.Whole enc P f.params.toList s.vars false W args.toList ds [] before) (hr:f.resultTypes=#[tb]) (hu:P.underlying tb=some .bool)
 (OA:s.fn H (ds++[])={results:=[.lit (.bool true)],args:=ds}) (aC:(f.params.toList.all fun t=>P.readableRec t&&decide (t<P.types.size))=true) (hb:Below W.heap.size W W'):
 s.post enc P f false true false false W args (.bool true) W':=by
 have hlt:∀p∈before,p.block<W.heap.size:=fun p hp=>hW.lt p hp;have hW':=hW;obtain⟨p,q,hA,hV,rfl,_,_⟩:=hW';rw[hs]at hV;have hq:q=[]:=hV;subst hq;refine⟨ds,[],_,[],p,[],hW,?_,?_,?_,World.keptBut_mono (fun x hx=>⟨hx,?_⟩) (hb.frame (· ∈p++[])),fun h=>by cases h⟩
 ·rw[OA,hr];exact trodAll_mk1 (shut_bool hu true)
 ·rw[OA];exact Xex hl hb aC hA (fun x hx=>hlt x (List.mem_append_left _ hx))
 ·rw[OA,hs];rfl
 ·exact .inr (.inl (by simpa using hx))
open Go.ChangeShapes Go.WideShapes Go.ChangeAt Go.RowKit
theorem own:ownKnob Tryz.prog.godebug=none:=by kernel_rfl
theorem Xwg:laidOutB Tryz.prog=true:=by kernel_rfl
theorem Xxz:∀{l:List α},l.length=6→ ∃a b c d e f,l=[a,b,c,d,e,f]
 | [a,b,c,d,e,f],_=>⟨a,b,c,d,e,f,rfl⟩
theorem Xwh{r:Reach}{k:IntKind}(ht:P.underlying t=some (.int k))(hv:Value.okWide P w r b0 t v):∃n:Int,v= .int k n∧k.min≤n∧n≤k.max:=by
 obtain⟨n,rfl⟩:=okWide_int ht hv;simp[Value.okWide,ht,Cell.okWide,Cell.ok,IntKind.has]at hv;exact⟨n,rfl,hv.1,hv.2⟩
theorem Xi1{n nm:String}{d:DataW Unit}{r:List (String×DataW Unit)}{ti:TypeId}{ms:Array (String×TypeId)}
 (h:laidMet P ((n,.iface nm d)::r) W) (hg:P.globalNamed n=some g) (ht:(P.globals[g]?).map (·.type)=some ti) (hi:P.underlying ti=some (.interface ms)):
 ∃tp p,W.var? P n=some #[.iface tp p]:=by
 obtain⟨ps,⟨g0,t0,cs0,f0,p0,q0,GR,TF,zK,TJ,_,e0⟩,_,aiO⟩:=h;obtain rfl:=Option.some.inj (hg.symm.trans GR);obtain rfl:=Option.some.inj (ht.symm.trans TF);subst e0;obtain⟨l0⟩:=cs0;obtain⟨f1,u,v,fE,_,_⟩:=iface_of_trod hi TJ;have kI:l0=[.iface u v]:=fE;subst kI;exact⟨u,v,zK⟩
theorem Xlm(h:laidMetH Tryz.prog Rows.sessionWritesRow.laid W)(Ui:W.ShapedOpen Tryz.prog):eG (il W):=by
 rw[MakeChecks.laidMetH_plain _ _ _ (by kernel_rfl)]at h;have h2 : Lib.TabIs Tryz.prog W "internal/strconv.uint64pow10" .u64 Lib.pow10Tab :=
  Lib.tabIs_of_head (t:=305) (e:=210) (n:=20) (g:=5) (rest:=(Rows.sessionWritesRow.laid).drop 3) (by kernel_rfl) (by kernel_rfl) Tryz.underlying305 Tryz.underlying210 (by kernel_rfl) (by kernel_rfl) h.tail.tail
 obtain⟨tp1,p1,h3⟩:=Xi1 (ti:=191) (g:=2) h.tail.tail.tail.tail (by kernel_rfl) (by kernel_rfl) Tryz.underlying191;obtain⟨tp2,p2,h4⟩:=Xi1 (ti:=191) (g:=1) h.tail.tail.tail.tail.tail (by kernel_rfl) (by kernel_rfl) Tryz.underlying191;obtain⟨m,hm⟩:=cell_of_shapedOpen_int (g:=0) (zero:=#[.int .i64 0]) (t:=3) Ui (of_decide_eq_true (by kernel_rfl)) (by kernel_rfl) rfl (by kernel_rfl) (by kernel_rfl) Tryz.underlying3;obtain⟨_,c,uG,yj⟩:=il.of_cell hm;exact⟨il.Bn (by kernel_rfl) h2,⟨c,m,uG,yj⟩,⟨tp2,p2,il.Bn (by kernel_rfl) h4⟩,⟨tp1,p1,il.Bn (by kernel_rfl) h3⟩⟩
section
variable {H:Type} {enc:TypeId×Value→H}
end
section
variable {H:Type} {enc:TypeId×Value→H}
end
open Go.ChangeShapes Go.WideShapes Go.ChangeAt Go.RowKit
theorem Xxo(d:DataW H):1≤Rows.uptoBulk d:=by
 cases d with
 |lit l=>cases l<;>simp[Rows.uptoBulk]
 |nil=>simp[Rows.uptoBulk]
 |ptr d=>simp[Rows.uptoBulk]
 |slice elems spare=>simp[Rows.uptoBulk]
 |agg parts=>simp[Rows.uptoBulk]
 |iface t d=>simp[Rows.uptoBulk]
 |map entries=>simp[Rows.uptoBulk]
 |held h=>simp[Rows.uptoBulk]
theorem Xnl{l:List (DataW H)}(h:d∈l):Rows.uptoBulk d≤Rows.uptoBulkAll l:=by
 induction l with
 |nil=>cases h
 |cons x r ih=>
  simp only[Rows.uptoBulkAll];cases List.mem_cons.1 h with
  |inl e=>subst e;omega
  |inr e=>have:=ih e;omega
theorem Xxp(l:List (DataW H)):l.length≤Rows.uptoBulkAll l:=by
 induction l with
 |nil=>simp[Rows.uptoBulkAll]
 |cons x r ih=>have:=Xxo x;simp only[Rows.uptoBulkAll,List.length_cons];omega
theorem NR(bytes:List UInt8):Rows.uptoBulk (DataW.lit (H:=H) (.string bytes))=bytes.length+1:=by simp[Rows.uptoBulk]
theorem Xvk{gs:List (DataW H)}(h:Rows.uptoSmall H (ds++gs)=true)(hd:d∈ds):Rows.uptoBulk d≤1048576:=by
 have h2:Rows.uptoBulkAll (ds++gs)≤1048576:=of_decide_eq_true h;exact Nat.le_trans (Xnl (List.mem_append_left _ hd)) h2
def oP{α:Type}(P:Program)(t:TypeId)(T:Ty α)(Wf:α→Prop):Prop:=
 P.cellsOf t=T.size∧0<T.size∧ ∀{H:Type} {enc:TypeId×Value→H} {w:World} {base:Nat} {spare:Nat→Bool} {held:Bool} {fuel:Nat} {cs:List Value} {x:DataW H×List MemPlace},
  DataW.trod enc P w base spare held fuel t cs=some x→Rows.uptoBulk x.1≤1048576→ ∃y,T.rd (il w) cs y∧Wf y
section
variable {α:Type} {P:Program} {T:Ty α} {Wf:α→Prop}
variable {H:Type} {enc:TypeId×Value→H} {w:World} {base:Nat} {spare:Nat→Bool} {held:Bool} {fuel:Nat} {cs:List Value} {x:DataW H×List MemPlace}
theorem oP.slice(ht:P.underlying t=some (.slice e))(he:oP P e T Wf)(h:DataW.trod enc P w base spare held fuel t cs=some x)(hb:Rows.uptoBulk x.1≤1048576):
 ∃v l,cs=[v]∧aZ T (il w) v l∧(∀y∈l,Wf y)∧l.length≤1048576:=by
 rcases Go.Deep.open_slice ht h with⟨rfl,_⟩|⟨a,len,cap,m,n,D,Pl,rfl,_,hl,hm,hmm,rfl,hi⟩
 ·exact⟨_,[],rfl,aZ.nil _ _,fun _ h=>absurd h (by simp),by simp⟩
 ·have nA:len≤m:=by rw[hmm];split<;>omega
  simp only[Rows.uptoBulk]at hb;have hlen:=Xxp ((List.range len).map D);rw[List.length_map,List.length_range]at hlen;have hx:∀i:Fin len,∃y,(∃cs',T.rd (il w) cs' y∧ ∀j u,cs'[j]?=some u→w.cell? (a.add (i.1*T.size+j))=some u)∧Wf y:=by
   intro i;obtain⟨cs',hc,ht'⟩:=hi i.1 (by omega);rw[he.1]at hc;have G5:Rows.uptoBulk (D i.1)≤1048576:=by
    have:=Xnl (show D i.1∈(List.range len).map D from List.mem_map.2 ⟨i.1,List.mem_range.2 i.2,rfl⟩);omega
   obtain⟨y,hy,l7⟩:=he.2.2 ht' G5;obtain⟨_,dC,TZ⟩:=World.cells?_some hc;refine⟨y,⟨cs',hy,fun j u hu=> ?_⟩,l7⟩;have hj:=(List.getElem?_eq_some_iff.1 hu).1;rw[←hu,←TZ j (by omega),Go.Deep.add_add]
  obtain⟨f,hf⟩:=Classical.axiomOfChoice hx;refine⟨_,List.ofFn f,rfl,⟨some a,cap,by rw[List.length_ofFn],by rw[List.length_ofFn];exact hl,hm,fun h0=> ?_⟩,fun y hy=> ?_,by rw[List.length_ofFn];omega⟩
  ·rw[List.length_ofFn]at h0;obtain⟨cs0,h1,h2⟩:=(hf ⟨0,h0⟩).1;have hlen:=T.len h1;have vH:=h2 0 _ (List.getElem?_eq_getElem (by rw[hlen];exact he.2.1));have e0:a.add ((⟨0,h0⟩:Fin len).1*T.size+0)=a:=by simp[Addr.add]
   rw[e0]at vH;obtain⟨hs,c,hc,_⟩:=il.of_cell vH;obtain⟨ab,ao,asp⟩:=a;change asp=none at hs;subst hs;change il w ab=some c at hc;refine⟨ab,ao,c,rfl,hc,fun i hi=> ?_⟩;rw[List.length_ofFn]at hi;obtain⟨csi,h3,h4⟩:=(hf ⟨i,hi⟩).1;refine⟨csi,by rw[List.getElem_ofFn];exact h3,fun j u hu=> ?_⟩;have h5:=h4 j u hu;rw[Addr.add_lit]at h5;obtain⟨_,c',iw,h6⟩:=il.of_cell h5;change il w ab=some c' at iw;rw[hc]at iw;cases iw;exact h6
  ·obtain⟨i,hi,rfl⟩:=List.getElem_of_mem hy;rw[List.getElem_ofFn];exact(hf _).2
theorem oP.arg(ht:P.underlying t=some (.slice e))(he:oP P e T Wf){r:Reach}{d:DataW H}{ps:List MemPlace}(hv:Value.okWide P w r b0 t v)(h:DataW.Trod enc P w base spare held t v d ps)(hb:Rows.uptoBulk d≤1048576):
 ∃l,aZ T (il w) v l∧(∀y∈l,Wf y)∧l.length≤1048576:=by
 obtain⟨fuel,hf⟩:=h;obtain⟨v',l,fE,h1,h2⟩:=he.slice ht hf hb;obtain⟨ao,cap,rfl,_⟩:=id h1;obtain⟨Xa,n',c',rfl⟩:=okWide_slice ht hv;simp[Value.cells]at fE;obtain⟨rfl,rfl,rfl⟩:=fE;exact⟨l,h1,h2⟩
end
theorem Jz{xs:List (DataW H×List MemPlace)}(hb:Rows.uptoBulk (DataW.agg (xs.map (·.1)))≤1048576){i:Nat}(hi:i<xs.length):Rows.uptoBulk xs[i].1≤1048576:=by
 simp only[Rows.uptoBulk]at hb;have:=Xnl (show xs[i].1∈xs.map (·.1)from List.mem_map.2 ⟨xs[i],List.getElem_mem hi,rfl⟩);omega
def At.N(x:At):Prop:=x.k.length≤1048576∧x.v.length≤1048576
theorem DF:oP Tryz.prog 107 lD At.N:=by
 refine⟨by kernel_rfl,by decide,fun{H enc w base spare held fuel cs x} h hb=> ?_⟩;obtain⟨xs,n,_,rfl,hl,nD,hf⟩:=DataW.trod_struct Tryz.underlying107 h;have hc:Tryz.prog.cellsOf 107=2:=by kernel_rfl
 have c3:Tryz.prog.cellsOf 9=1:=by kernel_rfl
 rw[hc]at hl;obtain⟨a,b,rfl⟩:=Xx0 hl;simp at nD;have h0:=hf 0 _ rfl;have h1:=hf 1 _ rfl;rw[List.getElem?_eq_getElem (by omega)]at h0 h1;have g0:=Jz hb (show 0<xs.length by omega);have g1:=Jz hb (show 1<xs.length by omega);simp[c3]at h0 h1;obtain⟨s,e0,x0,w0⟩:=DataW.trod_string Tryz.underlying9 h0;obtain⟨t,e1,x1,w1⟩:=DataW.trod_string Tryz.underlying9 h1;rw[x0,NR]at g0;rw[x1,NR]at g1;cases e0;cases e1;exact⟨⟨s.data.toList,t.data.toList⟩,rfl,by show s.data.toList.length≤_;omega,by show t.data.toList.length≤_;omega⟩
structure jK.N (c:jK):Prop where
 k0: -9223372036854775808≤c.au
 k1:c.au≤9223372036854775807
 ag:c.ag.length≤1048576
 target:c.target.length≤1048576
 Bf:c.aj.length≤1048576
 aF:c.aF.length≤1048576
 aj:∀x∈c.aj,x.N
theorem Bo:oP Tryz.prog 25 Jh jK.N:=by
 refine⟨by kernel_rfl,by decide,fun{H enc w base spare held fuel cs x} h hb=> ?_⟩;obtain⟨xs,n,_,rfl,hl,nD,hf⟩:=DataW.trod_struct Tryz.underlying25 h;have hc:Tryz.prog.cellsOf 25=5:=by kernel_rfl
 have c2:Tryz.prog.cellsOf 3=1:=by kernel_rfl
 have c3:Tryz.prog.cellsOf 9=1:=by kernel_rfl
 have c4:Tryz.prog.cellsOf 23=1:=by kernel_rfl
 rw[hc]at hl;obtain⟨u0,u1,u2,u3,u4,rfl⟩:=Xxc hl;simp at nD;have h0:=hf 0 _ rfl;have h1:=hf 1 _ rfl;have h2:=hf 2 _ rfl;have h3:=hf 3 _ rfl;have h4:=hf 4 _ rfl;rw[List.getElem?_eq_getElem (by omega)]at h0 h1 h2 h3 h4;have g1:=Jz hb (show 1<xs.length by omega);have g2:=Jz hb (show 2<xs.length by omega);have g3:=Jz hb (show 3<xs.length by omega);have g4:=Jz hb (show 4<xs.length by omega);simp[c2,c3,c4]at h0 h1 h2 h3 h4;obtain⟨i0,e0,_,w0⟩:=DataW.trod_int Tryz.underlying3 h0;obtain⟨s1,e1,x1,w1⟩:=DataW.trod_string Tryz.underlying9 h1;obtain⟨v2,l2,e2,r2,m2,n2⟩:=DF.slice Tryz.underlying23 h2 g2;obtain⟨s3,e3,x3,w3⟩:=DataW.trod_string Tryz.underlying9 h3;obtain⟨s4,e4,x4,w4⟩:=DataW.trod_string Tryz.underlying9 h4;rw[x1,NR]at g1;rw[x3,NR]at g3;rw[x4,NR]at g4;cases e0;cases e1;cases e2;cases e3;cases e4;rw[Go.Lit.wf_int_iff]at w0;have k2:IntKind.i64.min= -9223372036854775808:=rfl;have k3:IntKind.i64.max=9223372036854775807:=rfl;refine⟨⟨i0,s1.data.toList,l2,s3.data.toList,s4.data.toList⟩,⟨u2,rfl,r2⟩,⟨?_,?_,?_,?_,n2,?_,m2⟩⟩
 ·show _≤i0;omega
 ·show i0≤_;omega
 ·show s1.data.toList.length≤_;omega
 ·show s3.data.toList.length≤_;omega
 ·show s4.data.toList.length≤_;omega
structure jG.N (r:jG):Prop where
 own:r.owner.length≤1048576
 c:r.c.N
theorem DI:oP Tryz.prog 27 CJ jG.N:=by
 refine⟨by kernel_rfl,by decide,fun{H enc w base spare held fuel cs x} h hb=> ?_⟩;obtain⟨xs,n,_,rfl,hl,nD,hf⟩:=DataW.trod_struct Tryz.underlying27 h;have hc:Tryz.prog.cellsOf 27=6:=by kernel_rfl
 have c3:Tryz.prog.cellsOf 9=1:=by kernel_rfl
 have c5:Tryz.prog.cellsOf 25=5:=by kernel_rfl
 rw[hc]at hl;obtain⟨u0,u1,u2,u3,u4,u5,rfl⟩:=Xxz hl;simp at nD;have h0:=hf 0 _ rfl;have h1:=hf 1 _ rfl;rw[List.getElem?_eq_getElem (by omega)]at h0 h1;have g0:=Jz hb (show 0<xs.length by omega);have g1:=Jz hb (show 1<xs.length by omega);simp[c3,c5]at h0 h1;obtain⟨s0,e0,x0,w0⟩:=DataW.trod_string Tryz.underlying9 h0;obtain⟨c,⟨va,fE,fq⟩,hN⟩:=Bo.2.2 h1 g1;rw[x0,NR]at g0;cases e0;have fE:[u1,u2,u3,u4,u5]=KM c va:=fE;injection fE with q1 fE
 injection fE with q2 fE
 injection fE with q3 fE
 injection fE with q4 fE
 injection fE with q5 fE
 subst q1 q2 q3 q4 q5;exact⟨⟨s0.data.toList,c⟩,⟨_,rfl,fq⟩,by show s0.data.toList.length≤_;omega,hN⟩
structure Acc.N (a:Acc):Prop extends a.In where
 arf:a.owner.length≤1048576
theorem Bp:oP Tryz.prog 54 iY Acc.N:=by
 refine⟨by kernel_rfl,by decide,fun{H enc w base spare held fuel cs x} h hb=> ?_⟩;obtain⟨xs,n,_,rfl,hl,nD,hf⟩:=DataW.trod_struct Tryz.underlying54 h;have hc:Tryz.prog.cellsOf 54=5:=by kernel_rfl
 have c2:Tryz.prog.cellsOf 3=1:=by kernel_rfl
 have c3:Tryz.prog.cellsOf 9=1:=by kernel_rfl
 rw[hc]at hl;obtain⟨u0,u1,u2,u3,u4,rfl⟩:=Xxc hl;simp at nD;have h0:=hf 0 _ rfl;have h1:=hf 1 _ rfl;have h2:=hf 2 _ rfl;have h3:=hf 3 _ rfl;have h4:=hf 4 _ rfl;rw[List.getElem?_eq_getElem (by omega)]at h0 h1 h2 h3 h4;have g0:=Jz hb (show 0<xs.length by omega);simp[c2,c3]at h0 h1 h2 h3 h4;obtain⟨s0,e0,x0,w0⟩:=DataW.trod_string Tryz.underlying9 h0;obtain⟨i1,e1,_,w1⟩:=DataW.trod_int Tryz.underlying3 h1;obtain⟨i2,e2,_,w2⟩:=DataW.trod_int Tryz.underlying3 h2;obtain⟨i3,e3,_,w3⟩:=DataW.trod_int Tryz.underlying3 h3;obtain⟨i4,e4,_,w4⟩:=DataW.trod_int Tryz.underlying3 h4;rw[x0,NR]at g0;cases e0;cases e1;cases e2;cases e3;cases e4;rw[Go.Lit.wf_int_iff]at w1 w2 w3 w4;have k2:IntKind.i64.min= -9223372036854775808:=rfl;have k3:IntKind.i64.max=9223372036854775807:=rfl;refine⟨⟨s0.data.toList,i1,i2,i3,i4⟩,rfl,⟨⟨?_,?_,?_,?_,?_,?_,?_,?_,?_⟩,?_⟩⟩
 ·show s0.data.toList.length≤_;omega
 ·show _≤i1;omega
 ·show i1≤_;omega
 ·show _≤i2;omega
 ·show i2≤_;omega
 ·show _≤i3;omega
 ·show i3≤_;omega
 ·show _≤i4;omega
 ·show i4≤_;omega
 ·show s0.data.toList.length≤_;omega
theorem Xki{enc:TypeId×Value→H}{C:Checked}{os:Os}{f:FuncId}{fn:Func}{s:OpenSpec}{conds:List PathCond}{apart:Bool}{laid:List (String×DataW Unit)}(modest:Bool)(w0:World)(args:Array Value)(OG:w0.os=os)
 (Ui:(w0.forCall (fun _ _=>0) ⟨#[],args,[]⟩).Shaped C.prog)
 (iQ:Input.okWideB C.prog (w0.forCall (fun _ _=>0) ⟨#[],args,[]⟩) f ⟨#[],args,[]⟩=true)
 (aS:s.preRow enc C.prog fn conds apart laid (w0.forCall (fun _ _=>0) ⟨#[],args,[]⟩).memory args):
 ∃(w:World) (tape:Tape) (i:Input),w.os=os∧(w.forCall tape i).Shaped C.prog∧i.vars=[]∧Input.okWide C.prog (w.forCall tape i) .any w.heap.size f i∧
  s.preRow enc C.prog fn conds apart laid (w.forCall tape i).memory i.args∧({modest:=modest}:Assume).holds C.prog (lone (Frame.enter C.prog f i.args .normal) [] (w.forCall tape i)):=
 ⟨w0,fun _ _=>0,⟨#[],args,[]⟩,OG,Ui,(Input.okWide_of_okWideB (base:=0) iQ).1,(Input.okWide_of_okWideB iQ).2,aS,by
   simp only[Assume.holds];exact⟨by simp,by simp,fun _=>Modest.zero,by simp,by simp⟩⟩
theorem Xkm:∀{l:List At},(∀x∈l,x.N)→(l.map fun a=>10+a.k.length+a.v.length).sum≤l.length*2097162
 | [],_=>by simp
 |x::l,h=>by
  have:=Xkm (l:=l) (fun y hy=>h y (List.mem_cons_of_mem _ hy));obtain⟨h1,h2⟩:=h x (List.mem_cons_self ..);rw[List.map_cons,List.sum_cons,List.length_cons,Nat.add_mul];omega
theorem Xqe(h:r.N):jV r≤2200000000000:=by
 have:=Xkm h.c.aj;have h1:=h.own;have h2:=h.c.ag;have h3:=h.c.target;have h4:=h.c.aF;have h5:=h.c.Bf;have h6:=Nat.mul_le_mul_right 2097162 h5;unfold jV;omega
theorem Xte:∀{rs:List jG},(∀r∈rs,r.N)→rs.length≤1048576→bN rs≤4611686018427387904:=by
 have key:∀{rs:List jG},(∀r∈rs,r.N)→bN rs≤rs.length*2200000000000:=by
  intro rs;induction rs with
  |nil=>intro _;simp[bN]
  |cons r rs ih=>
   intro h;have:=ih (fun y hy=>h y (List.mem_cons_of_mem _ hy));have hr:=Xqe (h r (List.mem_cons_self ..));have e:bN (r::rs)=jV r+bN rs:=by simp[bN]
   rw[e,List.length_cons,Nat.add_mul];omega
 intro rs h hl;have:=key h;have h2:=Nat.mul_le_mul_right 2200000000000 hl;omega
