/-
  Walks and laws that the claim's theorem uses: texts AfB EgL Open, joined; comments out. Conditions: as each theorem says.
-/
import Derived.Test.YtdodihnehppnmaaGreatDoorCI39
import Derived.Test.YtdodihnehppnmaaGreatDoorCI37
import Derived.ProofKit
import Derived.Deep.Slices
import Derived.Lib.LaidTab
import Derived.LaidMore
import Derived.Lay
import Derived.Stop.Joined
import Derived.Stop.LaidErr
set_option linter.all false
namespace Go.Proofs.YtdodihnehppnmaaGreatDoor
open Go.RowKit
def right41 (l:List Ses):Bool:= !gr41 l&&chkH l==0
def right41I (l:List Ses):Int:=if right41 l then 1 else 0
set_option maxRecDepth 100000 in
set_option maxHeartbeats 4000000 in
theorem Xfw (I:IH) (hI:Glob I) (v:Value) (l:List Ses) (hv:RdS tSes I v l) (hwf:∀x∈l,x.Wf) (e:Ent) (va vx:Value) (hva:RdS tAt I va e.attrs) (hvx:RdS tXt I vx e.exts) (hew:e.Wf) (w:World) (hw:Ok I w):
 Calls Tryz.prog 3 #[v,entV e va vx] w fun r w'=>r= .returned (.bool true)∧Below w.heap.size w w':=by
 have Hal:=Qh (fun w hw=>Xhk I hI w hw)
 have Hgr:=Qh (fun w hw=>Xma I v l hv hwf w hw)
 have Hge:=Qh (fun w hw=>Xdi I e va vx hva hvx hew w hw)
 have Hex:=Qh (fun (h:gr41 l=false) x va vx hva hvx w hw=>Xip I v l hv (Xhn hwf h).2.1 (by have:=(Xhn hwf h).1;omega) x va vx hva hvx w hw)
 have Hrx:=Qh (fun (h:gr41 l=false) x va vx hva hvx w hw=>Xmg I v l hv (Xhn hwf h).2.1 (by have:=(Xhn hwf h).1;omega) x va vx hva hvx w hw)
 have Hva:=Qh hva
 have Hvx:=Qh hvx
 have Hv:=Qh hv
 obtain ⟨ao,cap,rfl,_,_,_⟩:=id hv
 obtain ⟨aa,ca,rfl,_,_,_⟩:=id hva
 obtain ⟨ax,cx,rfl,_,_,_⟩:=id hvx
 have A0:=Qh ((MAt.start hw).past (.cells #[.int .i64 e.kind,S e.path,.slice aa e.attrs.length ca,S e.target,.int .i64 e.size,S e.digest,.slice ax e.exts.length cx] 26))
 have EB:=Qh (entB (W:=w) (e:=e) (va:= .slice aa e.attrs.length ca) (vx:= .slice ax e.exts.length cx) (t:=26) rfl (Qb _ _))
 clear hv hva hvx
 cases hg:gr41 l
 case true=>
  have e1:gr41I l=1:=by rw [gr41I,hg];rfl
  rw [e1] at Hgr
  clear e1 hg
  go_enter Tryz.func3,Tryz.ntmps3
  go_wp2_with fail
  refine (Hgr.out _ A0.out.ok).mono ?_
  rintro e1 w1 ⟨rfl,hb1⟩
  have A1:=Qh (A0.out.quiet hb1)
  clear hb1 A0
  go_wp2_with fail
  refine (Hal.out _ A1.out.ok).mono ?_
  rintro e2 w2 ⟨rfl,hb2⟩
  have A2:=Qh (A1.out.quiet hb2)
  clear hb2 A1
  go_wp2
  go_ret
  exact ⟨rfl,A2.out.bel⟩
 case false=>
  have e1:gr41I l=0:=by rw [gr41I,hg];rfl
  rw [e1] at Hgr
  replace Hex:=Qh (Hex.out hg)
  replace Hrx:=Qh (Hrx.out hg)
  have hl8:=(Xhn hwf hg).1
  clear e1 hg
  cases hge:greatE e
  case true=>
   have e2:grE e=1:=by rw [grE,hge];rfl
   rw [e2] at Hge
   clear e2 hge
   go_enter Tryz.func3,Tryz.ntmps3
   go_wp2_with fail
   refine (Hgr.out _ A0.out.ok).mono ?_
   rintro r1 w1 ⟨rfl,hb1⟩
   have A1:=Qh (A0.out.quiet hb1)
   have EB1:=Qh (EB.out.thru hb1)
   clear hb1 A0 EB
   obtain ⟨y0,y1,y2,y3,y4,y5,y6⟩:=EB1.out
   go_wp2_with fail
   refine (Hge.out _ A1.out.ok).mono ?_
   rintro e2 w2 ⟨rfl,hb2⟩
   have A2:=Qh (A1.out.quiet hb2)
   clear hb2 A1
   go_wp2_with fail
   refine (Hal.out _ A2.out.ok).mono ?_
   rintro e3 w3 ⟨rfl,hb3⟩
   have A3:=Qh (A2.out.quiet hb3)
   clear hb3 A2
   go_wp2
   go_ret
   exact ⟨rfl,A3.out.bel⟩
  case false=>
   have e2:grE e=0:=by rw [grE,hge];rfl
   rw [e2] at Hge
   clear e2 hge
   have Hc1:=Qh (Hex.out e _ _ Hva.out Hvx.out)
   have Hc2:=Qh (Hrx.out e _ _ Hva.out Hvx.out)
   generalize conP (strmsP l) e=g at Hc1 Hc2
   obtain ⟨ct,er⟩:=g
   dsimp only at Hc1 Hc2
   have q1:(ct==ct)=true:=beq_self_eq_true ct
   have q2:(er==er)=true:=beq_self_eq_true er
   go_enter Tryz.func3,Tryz.ntmps3
   go_wp2_with fail
   refine (Hgr.out _ A0.out.ok).mono ?_
   rintro r1 w1 ⟨rfl,hb1⟩
   have A1:=Qh (A0.out.quiet hb1)
   have EB1:=Qh (EB.out.thru hb1)
   clear hb1 A0 EB
   obtain ⟨y0,y1,y2,y3,y4,y5,y6⟩:=EB1.out
   go_wp2_with fail
   refine (Hge.out _ A1.out.ok).mono ?_
   rintro r2 w2 ⟨rfl,hb2⟩
   have A2:=Qh (A1.out.quiet hb2)
   have EB2:=Qh (EB1.out.thru hb2)
   clear hb2 A1 EB1 y0 y1 y2 y3 y4 y5 y6
   obtain ⟨y0,y1,y2,y3,y4,y5,y6⟩:=EB2.out
   go_wp2_with fail
   refine (Hc1.out _ A2.out.ok).mono ?_
   rintro r3 w3 ⟨rfl,hb3⟩
   have A3:=Qh (A2.out.quiet hb3)
   have EB3:=Qh (EB2.out.thru hb3)
   clear hb3 A2 EB2 y0 y1 y2 y3 y4 y5 y6
   obtain ⟨y0,y1,y2,y3,y4,y5,y6⟩:=EB3.out
   go_wp2_with fail
   refine (Hc2.out _ A3.out.ok).mono ?_
   rintro r4 w4 ⟨rfl,hb4⟩
   have A4:=Qh (A3.out.quiet hb4)
   clear hb4 A3 EB3 y0 y1 y2 y3 y4 y5 y6 q1 q2
   have q1:(ct==ct)=true:=beq_self_eq_true ct
   have q2:(er==er)=true:=beq_self_eq_true er
   have q3:(er != er)=false:=by simp
   have q4:(!(ct==ct))=false:=by rw [q1];rfl
   go_wp2_with fail
   go_loopw [10,48] (fun _ s48 wr=> ∃k:Nat,k≤l.length∧s48= .int .i64 k∧MAt I w I wr) (fun _ i _=>l.length-(intOf i).toNat)
   case atStart=>exact ⟨0,Nat.zero_le _,rfl,A4.out⟩
   case round=>
    clear A4 q1 q2 q3 q4
    obtain ⟨k,hk,rfl,hM⟩:=hrel
    have M:=Qh hM
    clear hM
    by_cases hlt:k<l.length
    ·obtain ⟨x,ve,b,off,cap',hlx,hvv,⟨c0,c1,c2,c3,c4,c5⟩,h1⟩:=Xol Hv.out M.out.ok k hlt
     cases hvv
     obtain ⟨oe,ce,rfl,_,_,_⟩:=id h1
     have HE:=Qh h1
     have hel:=h1.len_le
     have M1:=Qh (M.out.past (.cells #[.int .i64 x.num,.int .i64 x.date,S x.prev,.slice oe x.ents.length ce,S x.stream,S x.sl] 35))
     clear hlx h1 M
     go_wp2_with fail
     go_loopw [12,55] (fun _ s55 wr=> ∃j:Nat,j≤x.ents.length∧s55= .int .i64 j∧MAt I w I wr) (fun _ i _=>x.ents.length-(intOf i).toNat)
     case atStart=>exact ⟨0,Nat.zero_le _,rfl,M1.out⟩
     case round=>
      clear M1 c0 c1 c2 c3 c4 c5
      obtain ⟨j,hj,rfl,hM⟩:=hrel
      have M:=Qh hM
      clear hM
      by_cases hjt:j<x.ents.length
      ·obtain ⟨y,wa,wx,g,go',gc,hly,hwv,⟨d0,d1,d2,d3,d4,d5,d6⟩,h2,h3⟩:=Xdu HE.out M.out.ok j hjt
       cases hwv
       obtain ⟨ya,yc,rfl,_,_,_⟩:=id h2
       obtain ⟨yx,yd,rfl,_,_,_⟩:=id h3
       have Hd1:=Qh (Hex.out y _ _ h2 h3)
       have Hd2:=Qh (Hrx.out y _ _ h2 h3)
       generalize conP (strmsP l) y=g2 at Hd1 Hd2
       obtain ⟨c2,er2⟩:=g2
       dsimp only at Hd1 Hd2
       have M1:=Qh (M.out.past (.cells #[.int .i64 y.kind,S y.path,.slice ya y.attrs.length yc,S y.target,.int .i64 y.size,S y.digest,.slice yx y.exts.length yd] 26))
       have YB:=Qh (entB (W:=wr) (e:=y) (va:= .slice ya y.attrs.length yc) (vx:= .slice yx y.exts.length yd) (t:=26) rfl (Qb _ _))
       clear hly h2 h3 M
       go_wp2_with fail
       refine (Hd1.out _ M1.out.ok).mono ?_
       rintro r5 w5 ⟨rfl,hb5⟩
       have M2:=Qh (M1.out.quiet hb5)
       have YB2:=Qh (YB.out.thru hb5)
       clear hb5 M1 YB d0 d1 d2 d3 d4 d5 d6
       obtain ⟨y0,y1,y2,y3,y4,y5,y6⟩:=YB2.out
       go_wp2_with fail
       refine (Hd2.out _ M2.out.ok).mono ?_
       rintro r6 w6 ⟨rfl,hb6⟩
       have M3:=Qh (M2.out.quiet hb6)
       clear hb6 M2 YB2 y0 y1 y2 y3 y4 y5 y6
       have q1:(c2==c2)=true:=beq_self_eq_true c2
       have q2:(er2==er2)=true:=beq_self_eq_true er2
       have q3:(er2 != er2)=false:=by simp
       have q4:(!(c2==c2))=false:=by rw [q1];rfl
       go_wp2
       go_roundw
       case rel=>exact ⟨j+1,by omega,by go_num,M3.out⟩
       case measure=>simp [intOf];omega
      ·go_wp2
       go_roundw
       case rel=>exact ⟨k+1,by omega,by go_num,M.out⟩
       case measure=>simp [intOf];omega
    ·go_wp2_with fail
     refine (Hal.out _ M.out.ok).mono ?_
     rintro r7 w7 ⟨rfl,hb7⟩
     go_wp2
     go_ret
     exact ⟨rfl,(M.out.quiet hb7).bel⟩
set_option maxRecDepth 100000 in
set_option maxHeartbeats 4000000 in
theorem Xgh (I:IH) (hI:Glob I) (s:Bytes) (w:World) (hw:Ok I w):
 Calls Tryz.prog 5 #[S s] w fun r w'=>r= .returned (.bool true)∧Below w.heap.size w w':=by
 have Hal:=Qh (fun w hw=>Xhk I hI w hw)
 have A0:=Qh (MAt.start hw)
 by_cases hs:3000<s.length
 ·have d1:decide ((3000:Int)<(s.length:Int))=true:=Qt (by omega)
  clear hs
  go_enter Tryz.func5,Tryz.ntmps5
  go_wp2_with fail
  refine (Hal.out _ A0.out.ok).mono ?_
  rintro e1 w1 ⟨rfl,hb1⟩
  have A1:=Qh (A0.out.quiet hb1)
  clear hb1 A0
  go_wp2
  go_ret
  exact ⟨rfl,A1.out.bel⟩
 ·have d1:decide ((3000:Int)<(s.length:Int))=false:=Qf (by omega)
  have H1:=Qh (fun w hw=>Xlb I hI s (by omega) w hw)
  have H2:=Qh (fun J (hk:∀b c,I b=some c→J b=some c) w hw=>Xot J s (by omega) w hw)
  rw [Xs2 s (by omega)] at H1
  generalize impL (impP decP s)=g at H1 H2
  obtain ⟨o,er⟩:=g
  dsimp only at H1 H2
  have q2:(er==er)=true:=beq_self_eq_true er
  go_enter Tryz.func5,Tryz.ntmps5
  go_wp2_with fail
  refine (H1.out _ A0.out.ok).mono ?_
  rintro r1 w1 ⟨v1,J1,rfl,hb1,hx1,hok1,hr1⟩
  have A1:=Qh (A0.out.ext hb1 hx1 hok1)
  obtain ⟨o1,c1,rfl,_,_,_⟩:=id hr1
  go_wp2_with fail
  refine (H2.out J1 A1.out.keep _ A1.out.ok).mono ?_
  rintro r2 w2 ⟨v2,J2,rfl,hb2,hx2,hok2,hr2⟩
  have A2:=Qh (A1.out.ext hb2 hx2 hok2)
  have Hsm:=Qh (fun w hw=>Xsn J2 _ _ o (hr1.mono (hx2.keep A1.out.ok (Qn _))) hr2 w hw)
  obtain ⟨o2,c2,rfl,_,_,_⟩:=id hr2
  clear hr1 hr2 hb1 hb2 hx1 hx2 hok1 hok2 A0 A1 H1 H2 d1
  go_wp2_with fail
  refine (Hsm.out _ A2.out.ok).mono ?_
  rintro r3 w3 ⟨rfl,hb3⟩
  have A3:=Qh (A2.out.quiet hb3)
  clear hb3 A2
  go_wp2_with fail
  refine (Hal.out _ A3.out.ok0).mono ?_
  rintro r4 w4 ⟨rfl,hb4⟩
  have A4:=Qh (A3.out.quiet hb4)
  clear hb4 A3
  go_wp2
  go_ret
  exact ⟨rfl,A4.out.bel⟩
end Go.Proofs.YtdodihnehppnmaaGreatDoor
namespace Go.Proofs.YtdodihnehppnmaaGreatDoor
open Go.ChangeShapes Go.WideShapes Go.ChangeAt Go.RowKit
def HeapI (w:World):IH:=fun b=>match w.heap[b]? with|some (.cells c _ _)=>some c|_=>none
theorem HeapI.ok (w:World):Ok (HeapI w) w:=by
 intro b c h
 unfold HeapI at h
 split at h
 ·rename_i c' e f hb
  cases h
  exact ⟨e,f,hb⟩
 ·cases h
theorem HeapI.of_var {P:Program} {w:World} {name:String} {g:Nat} {cs:Array Value} (hg:P.globalNamed name=some g) (h:w.var? P name=some cs):HeapI w g=some cs:=by
 unfold World.var? at h
 rw [hg,Option.bind_some] at h
 unfold HeapI
 split at h
 ·rename_i hb;cases h;rw [hb]
 ·cases h
theorem HeapI.of_cell {w:World} {a:Addr} {x:Value} (h:w.cell? a=some x):a.spot=none∧ ∃c,HeapI w a.block=some c∧c[a.off]? =some x:=by
 unfold World.cell? at h
 unfold HeapI
 split at h
 ·rename_i c e f hb
  split at h
  ·cases h
  ·rename_i hs
   refine ⟨by cases hsp:a.spot<;>simp_all,c,by rw [hb],h⟩
 ·cases h
def Opens {α:Type} (P:Program) (t:TypeId) (T:Ty α) (Wf:α→Prop):Prop:=
 P.cellsOf t=T.size∧0<T.size∧ ∀ {H:Type} {enc:TypeId × Value→H} {w:World} {base:Nat} {spare:Nat→Bool} {held:Bool} {fuel:Nat} {cs:List Value} {x:DataW H × List MemPlace},
  DataW.trod enc P w base spare held fuel t cs=some x→ ∃y,T.rd (HeapI w) cs y∧Wf y
section
variable {α:Type} {P:Program} {T:Ty α} {Wf:α→Prop}
variable {H:Type} {enc:TypeId × Value→H} {w:World} {base:Nat} {spare:Nat→Bool} {held:Bool} {fuel:Nat} {cs:List Value} {x:DataW H × List MemPlace}
theorem Opens.slice {t e:TypeId} (ht:P.underlying t=some (.slice e)) (he:Opens P e T Wf) (h:DataW.trod enc P w base spare held fuel t cs=some x):
 ∃v l,cs= [v]∧RdS T (HeapI w) v l∧ ∀y∈l,Wf y:=by
 rcases Go.Deep.open_slice ht h with ⟨rfl,_⟩|⟨a,len,cap,m,n,D,Pl,rfl,_,hl,hm,hmm,_,hi⟩
 ·exact ⟨_,[],rfl,RdS.nil _ _,fun _ h=>absurd h (by simp)⟩
 ·have hlm:len≤m:=by rw [hmm];split<;>omega
  have hx:∀i:Fin len,∃y,(∃cs',T.rd (HeapI w) cs' y∧ ∀j u,cs'[j]? =some u→w.cell? (a.add (i.1*T.size+j))=some u)∧Wf y:=by
   intro i
   obtain ⟨cs',hc,ht'⟩:=hi i.1 (by omega)
   rw [he.1] at hc
   obtain ⟨y,hy,hwf⟩:=he.2.2 ht'
   obtain ⟨_,hcl,hat⟩:=World.cells?_some hc
   refine ⟨y,⟨cs',hy,fun j u hu=> ?_⟩,hwf⟩
   have hj:=(List.getElem?_eq_some_iff.1 hu).1
   rw [←hu,←hat j (by omega),Go.Deep.add_add]
  obtain ⟨f,hf⟩:=Classical.axiomOfChoice hx
  refine ⟨_,List.ofFn f,rfl,⟨some a,cap,by rw [List.length_ofFn],by rw [List.length_ofFn];exact hl,hm,fun h0=> ?_⟩,fun y hy=> ?_⟩
  ·rw [List.length_ofFn] at h0
   obtain ⟨cs0,h1,h2⟩:=(hf ⟨0,h0⟩).1
   have hlen:=T.len h1
   have hc0:=h2 0 _ (List.getElem?_eq_getElem (by rw [hlen];exact he.2.1))
   have e0:a.add ((⟨0,h0⟩:Fin len).1*T.size+0)=a:=by simp [Addr.add]
   rw [e0] at hc0
   obtain ⟨hs,c,hc,_⟩:=HeapI.of_cell hc0
   obtain ⟨ab,ao,asp⟩:=a
   change asp=none at hs
   subst hs
   change HeapI w ab=some c at hc
   refine ⟨ab,ao,c,rfl,hc,fun i hi=> ?_⟩
   rw [List.length_ofFn] at hi
   obtain ⟨csi,h3,h4⟩:=(hf ⟨i,hi⟩).1
   refine ⟨csi,by rw [List.getElem_ofFn];exact h3,fun j u hu=> ?_⟩
   have h5:=h4 j u hu
   rw [Addr.add_lit] at h5
   obtain ⟨_,c',hc',h6⟩:=HeapI.of_cell h5
   change HeapI w ab=some c' at hc'
   rw [hc] at hc'
   cases hc'
   exact h6
  ·obtain ⟨i,hi,rfl⟩:=List.getElem_of_mem hy
   rw [List.getElem_ofFn]
   exact (hf _).2
theorem Opens.arg {t e:TypeId} (ht:P.underlying t=some (.slice e)) (he:Opens P e T Wf) {r:Reach} {b0:Nat} {v:Value} {d:DataW H} {ps:List MemPlace} (hv:Value.okWide P w r b0 t v) (h:DataW.Trod enc P w base spare held t v d ps):
 ∃l,RdS T (HeapI w) v l∧ ∀y∈l,Wf y:=by
 obtain ⟨fuel,hf⟩:=h
 obtain ⟨v',l,hcs,h1,h2⟩:=he.slice ht hf
 obtain ⟨ao,cap,rfl,_⟩:=id h1
 obtain ⟨ao',n',c',rfl⟩:=okWide_slice ht hv
 simp [Value.cells] at hcs
 obtain ⟨rfl,rfl,rfl⟩:=hcs
 exact ⟨l,h1,h2⟩
end
theorem Xww {α:Type}:∀ {l:List α},l.length=2→ ∃a b,l= [a,b]
 | [a,b],_=>⟨a,b,rfl⟩
theorem Xwv {α:Type}:∀ {l:List α},l.length=3→ ∃a b c,l= [a,b,c]
 | [a,b,c],_=>⟨a,b,c,rfl⟩
theorem Xe1 {H:Type} {enc:TypeId × Value→H} {P:Program} (hl:laidOutB P=true) {W W':World} (hb:Below W.heap.size W W'):
 ∀ {ts:List TypeId} {vs:List Value} {ds:List (DataW H)} {p:List MemPlace},(ts.all fun t=>P.readableRec t&&decide (t<P.types.size))=true→
 DataW.TrodAll enc P W 0 (fun _=>true) true ts vs ds p→(∀x∈p,x.block<W.heap.size)→DataW.TrodAll enc P W' 0 (fun b=>decide (b<W.heap.size)) true ts vs ds p
 | [],[],[],_,_,h,_=>h
 | [],[],_::_,_,_,h,_=>h.elim
 | [],_::_,_,_,_,h,_=>h.elim
 |_::_,[],_,_,_,h,_=>h.elim
 |_::_,_::_,[],_,_,h,_=>h.elim
 |t::ts,v::vs,d::ds,p,ha,h,hlt=>by
  obtain ⟨q,r,h1,h2,rfl⟩:=h
  simp only [List.all_cons,Bool.and_eq_true,decide_eq_true_eq] at ha
  exact ⟨q,r,hb.trod hl ha.1.1 ha.1.2 h1 (fun x hx=>hlt x (List.mem_append_left _ hx)),Xe1 hl hb ha.2 h2 (fun x hx=>hlt x (List.mem_append_right _ hx)),rfl⟩
theorem Xnq {H:Type} {enc:TypeId × Value→H} {P:Program} (hl:laidOutB P=true) {f:Func} {s:ChangeSpec} {W W':World} {args:Array Value} {ds:List (DataW H)} {before:List MemPlace} {tb:TypeId}
 (hs:s.vars= []) (hW:DataW.Whole enc P f.params.toList s.vars false W args.toList ds [] before) (hr:f.resultTypes= #[tb]) (hu:P.underlying tb=some .bool)
 (hfn:s.fn H (ds++ [])= { results:= [.lit (.bool true)],args:=ds }) (hall:(f.params.toList.all fun t=>P.readableRec t&&decide (t<P.types.size))=true) (hb:Below W.heap.size W W'):
 s.post enc P f false true false false W args (.bool true) W':=by
 have hlt:∀p∈before,p.block<W.heap.size:=fun p hp=>hW.lt p hp
 have hW':=hW
 obtain ⟨p,q,hA,hV,rfl,_,_⟩:=hW'
 rw [hs] at hV
 have hq:q= []:=hV
 subst hq
 refine ⟨ds,[],_,[],p,[],hW,?_,?_,?_,World.keptBut_mono (fun x hx=>⟨hx,?_⟩) (hb.frame (· ∈p++ [])),fun h=>by cases h⟩
 ·rw [hfn,hr];exact trodAll_mk1 (shut_bool hu true)
 ·rw [hfn];exact Xe1 hl hb hall hA (fun x hx=>hlt x (List.mem_append_left _ hx))
 ·rw [hfn,hs];rfl
 ·exact .inr (.inl (by simpa using hx))
end Go.Proofs.YtdodihnehppnmaaGreatDoor
