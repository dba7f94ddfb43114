/-
  Walks and laws that the claim's theorem uses: texts Ext LhF, joined; comments out. Conditions: as each theorem says.
-/
import Derived.Test.YtdeknddamidldaaGreatDoorQ44
import Derived.Test.YtdeknddamidldaaGreatDoorQ39
import Derived.Maps.Own
import Derived.Maps.OwnOps
import Derived.Maps.OwnSet
import Derived.Maps.Views
import Derived.Maps.RangeWalk
import Derived.Sort.MapsRangeIn
namespace Go.Proofs.YtdeknddamidldaaGreatDoor
open Go.RowKit
theorem verS_count (num d:Int) (p:Bytes):∀(es:List Ent) (s:Stt),((verS num d p s es).filter keeps).length=(es.filter (writes p)).length
 | [],_=>rfl
 |e::es,s=>by
  rw [verS,List.filter_append,List.length_append,verS_count num d p es,List.filter_cons]
  unfold verHit
  cases hw:writes p e
  ·unfold writes at hw
   rw [hw]
   simp only [Bool.false_or]
   by_cases h4:(e.kind==4)=true
   ·cases hc:(e.kind==4&&(getT s.tree p).isSome&&under p e.path)
    ·simp
    ·have:e.kind=4:=by simpa using h4
     simp [keeps,this]
   ·rw [show (e.kind==4)=false by simpa using h4]
    simp
  ·have hw':=hw
   unfold writes at hw'
   rw [hw']
   have h3:e.kind≤3:=by
    rw [Bool.and_eq_true,decide_eq_true_eq] at hw'
    exact hw'.1
   simp [keeps,show e.kind≠4 by omega]
   omega
theorem ver_count (p:Bytes):∀(xs:List Ses) (s:Stt),((verFrom p s xs).filter keeps).length=wrCount p xs
 | [],_=>rfl
 |x::xs,s=>by
  rw [verFrom,List.filter_append,List.length_append,verS_count,ver_count p xs,wrCount,wrCount,List.flatMap_cons,List.length_append]
theorem alt_append:∀(a b:List Ver) (r:Bool),AltOk r (a++b)↔AltOk r a∧AltOk ((a.foldl (fun _ v=>decide (v.e.kind=4)) r)) b
 | [],b,r=>by simp [AltOk]
 |v::a,b,r=>by
  rw [List.cons_append,AltOk,AltOk,List.foldl_cons]
  by_cases h:v.e.kind=4
  ·rw [if_pos h,if_pos h,Qt h,alt_append a b true,and_assoc]
  ·rw [if_neg h,if_neg h,Qf h,alt_append a b false]
theorem verS_alt (num d:Int) (p:Bytes):∀(es:List Ent) (s:Stt) (n:Nat),SOk n s→AllOk d s es→AltOk (getT s.tree p).isNone (verS num d p s es)∧(verS num d p s es).foldl (fun _ v=>decide (v.e.kind=4)) (getT s.tree p).isNone=(getT (runS s d es).tree p).isNone
 | [],_,_,_,_=>⟨trivial,rfl⟩
 |e::es,s,n,hs,⟨h1,h2⟩=>by
  obtain ⟨i1,i2⟩:=verS_alt num d p es _ _ (Xjf hs e d) h2
  have hg:=Xs1 hs.tree h1 p
  rw [verS,alt_append,List.foldl_append]
  show (AltOk _ _∧AltOk _ _)∧_=(getT (runS (stpP s e d).1 d es).tree p).isNone
  by_cases hv:verHit s p e=true
  ·rw [if_pos hv] at hg ⊢
   by_cases h4:e.kind=4
   ·rw [if_pos h4] at hg
    rw [hg] at i1 i2
    have hsome:(getT s.tree p).isNone=false:=by
     unfold verHit at hv
     rw [h4] at hv
     simp at hv
     cases hq:getT s.tree p with
     |none=>rw [hq] at hv;simp at hv
     |some z=>rfl
    simp only [List.foldl_cons,List.foldl_nil,AltOk,h4,if_true,decide_true]
    exact ⟨⟨⟨hsome,trivial⟩,i1⟩,i2⟩
   ·rw [if_neg h4] at hg
    rw [hg] at i1 i2
    simp only [List.foldl_cons,List.foldl_nil,AltOk,h4,if_false,decide_false]
    exact ⟨⟨trivial,i1⟩,i2⟩
  ·rw [if_neg hv] at hg ⊢
   rw [hg] at i1 i2
   exact ⟨⟨trivial,i1⟩,i2⟩
theorem ver_alt (p:Bytes):∀(xs:List Ses) (s:Stt) (n:Nat),SOk n s→AllSes s xs→AltOk (getT s.tree p).isNone (verFrom p s xs)
 | [],_,_,_,_=>trivial
 |x::xs,s,n,hs,⟨h1,h2⟩=>by
  obtain ⟨i1,i2⟩:=verS_alt x.num x.date p x.ents s n hs h1
  rw [verFrom,alt_append,i2]
  exact ⟨i1,ver_alt p xs _ _ (Xqp x.ents hs x.date) h2⟩
theorem verS_path {num d:Int} {p:Bytes}:∀ {es:List Ent} {s:Stt} {v:Ver},v∈verS num d p s es→v.e.kind≠4→v.e.path=p
 | [],s,v,h,_=>by cases h
 |e::es,s,v,h,hk=>by
  rw [verS] at h
  rcases List.mem_append.1 h with h|h
  ·split at h
   ·rename_i hv
    rw [List.mem_singleton.1 h] at hk ⊢
    unfold verHit at hv
    rw [show (e.kind==4)=false by simpa using hk] at hv
    simp at hv
    exact hv.2
   ·cases h
  ·exact verS_path h hk
theorem ver_path {p:Bytes}:∀ {xs:List Ses} {s:Stt} {v:Ver},v∈verFrom p s xs→v.e.kind≠4→v.e.path=p
 | [],s,v,h,_=>by cases h
 |x::xs,s,v,h,hk=>by
  rw [verFrom] at h
  rcases List.mem_append.1 h with h|h
  ·exact verS_path h hk
  ·exact ver_path h hk
theorem mlaw:Go.Maps.Keyed Tryz.prog 9:=Go.Maps.string_keyed Tryz.underlying9
theorem mzero (w:World):(zeroValue 3).run Tryz.prog w= .ok (.int .i64 0) w:=by kernel_rfl
theorem mkey (p:Bytes) (hp:p.length≤4294967280):keyOf Tryz.prog 9 (S p)=some (.string p):=by
 have h:=Go.WideMaps.keyOf_string_mk (P:=Tryz.prog) Tryz.underlying9 (s:=⟨p.toArray⟩) (by rw [ByteArray.size_mk',List.size_toArray];unfold maxLen;omega)
 simpa using h
def cntE (p:Bytes) (es:List Ent):Nat:=(es.filter (writes p)).length
def MapIs (D:DataW Unit) (es:List Ent):Prop:= ∀(p:Bytes) (z:DataW Unit),D.atKey (.string p) z=if cntE p es=0 then z else .lit (.int .i64 (cntE p es:Nat))
theorem mapIs_nil:MapIs (.map []) []:=fun _ _=>rfl
theorem cntE_snoc (p:Bytes) (es:List Ent) (e:Ent):cntE p (es++ [e])=cntE p es+if writes p e=true then 1 else 0:=by
 unfold cntE
 rw [List.filter_append,List.length_append,List.filter_cons]
 split<;>rfl
theorem mapIs_skip {D:DataW Unit} {es:List Ent} {e:Ent} (h:MapIs D es) (hk:¬e.kind≤3):MapIs D (es++ [e]):=fun p z=>by
 have:writes p e=false:=by unfold writes;rw [Qf hk];rfl
 rw [cntE_snoc,this]
 exact h p z
theorem mapIs_put {D:DataW Unit} {es:List Ent} {e:Ent} (h:MapIs D es) (hD:Go.Maps.IsMap D) (hk:e.kind≤3):MapIs (D.put (.string e.path) (.lit (.int .i64 ((cntE e.path es:Nat)+1)))) (es++ [e]):=fun p z=>by
 rw [cntE_snoc]
 by_cases hp:e.path=p
 ·subst hp
  have:writes e.path e=true:=by unfold writes;rw [Qt hk];simp
  rw [this,Go.Maps.atKey_put_same hD (show WideAt.IsKeyLit (.string e.path) from trivial),if_pos rfl,if_neg (by omega)]
  simp
 ·have:writes p e=false:=by unfold writes;rw [Qt hk];simpa using hp
  rw [this,Go.Maps.atKey_put_other (by intro e;cases e;exact hp rfl)]
  exact h p z
theorem cnt_of {D:DataW Unit} {es:List Ent} {p:Bytes} {c:Int} (h:MapIs D es) (hc:D.atKey (.string p) (.lit (.int .i64 0))= .lit (.int .i64 c)):c=(cntE p es:Nat):=by
 rw [h p] at hc
 split at hc
 ·rename_i h0
  rw [h0]
  cases hc
  rfl
 ·cases hc
  rfl
theorem cnt_wr (p:Bytes) (l:List Ses):cntE p (l.flatMap Ses.ents)=wrCount p l:=by
 unfold cntE wrCount
 rw [List.filter_flatMap]
theorem ents_snoc {l:List Ses} {k:Nat} (h:k<l.length) {x:Ses} (hx:l[k]=x):(l.take (k+1)).flatMap Ses.ents=(l.take k).flatMap Ses.ents++x.ents:=by
 rw [List.take_succ_eq_append_getElem h,hx,List.flatMap_append]
 simp
theorem ents_le:∀(l:List Ses),(∀x∈l,x.ents.length≤30)→(l.flatMap Ses.ents).length≤30*l.length
 | [],_=>Qn _
 |x::l,h=>by
  have h1:=ents_le l (fun y hy=>h y (List.mem_cons_of_mem _ hy))
  have h2:=h x (List.mem_cons_self ..)
  rw [List.flatMap_cons,List.length_append,List.length_cons]
  omega
theorem MAt.grown {I J:IH} {w0 W W':World} (A:MAt I w0 J W) {B:Nat} (hg:W.grownBy W' (some B)) (hJ:J B=none) (hB:w0.heap.size≤B):MAt I w0 J W':=
 ⟨A.ok.grown hg (fun g e=>by cases e;exact hJ),A.keep,A.bel.grown hg A.bel.size (fun k e=>by cases e;exact hB)⟩
theorem key_lit {p:Bytes} {kl:Lit} (h:keyOf Tryz.prog 9 (S p)=some kl):kl= .string p:=by
 have hu:=Tryz.underlying9
 simp [keyOf,mapKey,hu] at h
 exact h.2.symm
theorem key_inv (key:Value) (kl:Lit) (h:keyOf Tryz.prog 9 key=some kl):∃p:Bytes,key=S p:=by
 obtain ⟨s,rfl⟩:=Go.Maps.keyOf_string_inv Tryz.underlying9 h
 exact ⟨s.data.toList,by rw [S,Xvt]⟩
theorem val_inv (v:Value) (y:DataW Unit × List MemPlace) (h:plainElem Tryz.prog 3 v=some y):∃c:Int,v= .int .i64 c:=by
 obtain ⟨a,h1,_⟩:=plainElem_int_inv Tryz.underlying3 h
 exact ⟨a,h1⟩
theorem val_lit {c:Int} {y:DataW Unit × List MemPlace} (h:plainElem Tryz.prog 3 (.int .i64 c)=some y):y.1= .lit (.int .i64 c):=by
 obtain ⟨a,h1,h2,_⟩:=plainElem_int_inv Tryz.underlying3 h
 cases h1
 rw [h2]
theorem came {D:DataW Unit} {es:List Ent} {p:Bytes} {c:Int} {d:DataW Unit} (h:MapIs D es) (hat:∀z,D.atKey (.string p) z=d) (hd:d= .lit (.int .i64 c)):c=(cntE p es:Nat)∧ ∃e∈es,e.path=p:=by
 by_cases h0:cntE p es=0
 ·have a:=hat (.lit (.int .i64 0))
  have b:=hat (.lit (.int .i64 1))
  rw [h p,if_pos h0] at a b
  rw [←a] at b
  simp at b
 ·have a:=hat (.lit (.int .i64 0))
  rw [h p,if_neg h0,hd] at a
  refine ⟨by cases a;rfl,?_⟩
  obtain ⟨e,he⟩:=List.exists_mem_of_length_pos (show 0<(es.filter (writes p)).length from Nat.pos_of_ne_zero h0)
  obtain ⟨h1,h2⟩:=List.mem_filter.1 he
  unfold writes at h2
  rw [Bool.and_eq_true] at h2
  exact ⟨e,h1,by simpa using h2.2⟩
theorem ver_place {l:List Ses} (h:chkH l=0) {p:Bytes} {z:Ver} (hz:z∈verP l p):∃(j:Nat) (hj:j<l.length),z.s=(j:Int)+1∧z.d=(l[j]).date:=by
 obtain ⟨j,x,hx,h1,h2⟩:=Xqd hz
 have hj:=(List.getElem?_eq_some_iff.1 hx).1
 unfold chkH at h
 have h3:=Xsf h j x hx
 refine ⟨j,hj,by rw [h1,h3];omega,?_⟩
 rw [h2,(List.getElem?_eq_some_iff.1 hx).2]
theorem ver_first {l:List Ses} (h:chkH l=0) (p:Bytes):AltOk true (verP l p):=ver_alt p l nilS 0 Xql (by unfold chkH at h;exact Xnu h)
theorem keeps_snoc {vs:List Ver} {i:Nat} (h:i<vs.length) {z:Ver} (hz:vs[i]=z):((vs.take (i+1)).filter keeps).length=((vs.take i).filter keeps).length+if z.e.kind=4 then 0 else 1:=by
 rw [List.take_succ_eq_append_getElem h,hz,List.filter_append,List.length_append,List.filter_cons]
 unfold keeps
 by_cases h4:z.e.kind=4
 ·rw [if_pos h4,Qf (by omega)];simp
 ·rw [if_neg h4,Qt h4];simp
set_option maxRecDepth 100000 in
set_option maxHeartbeats 4000000 in
theorem law_HistoryVersionCount (I:IH) (hI:Glob I) (v:Value) (l:List Ses) (hv:RdS tSes I v l) (hwf:∀x∈l,x.Wf) (w:World) (hw:Ok I w):
 Calls Tryz.prog 7 #[v] w fun r w'=>r= .returned (.bool true)∧Below w.heap.size w w':=by
 have Hal:=Qh (fun w hw=>Xbx I hI w hw)
 have Hri:=Qh (fun w hw=>Xc2 I v l hv hwf w hw)
 have A0:=Qh (MAt.start hw)
 have hmm:= @run_makeMap Tryz.prog
 cases hg:right41 l
 case false=>
  have e1:right41I l=0:=by rw [right41I,hg];rfl
  rw [e1] at Hri
  obtain ⟨ao,cap,rfl,_,_,_⟩:=id hv
  clear e1 hg hv hmm
  go_enter Tryz.func7,Tryz.ntmps7
  go_wp2_with fail
  refine (Hal.out _ A0.out.ok).mono ?_
  rintro e1 w1 ⟨rfl,hb1⟩
  have A1:=Qh (A0.out.quiet hb1)
  clear hb1 A0
  go_wp2_with fail
  refine (Hri.out _ A1.out.ok).mono ?_
  rintro e2 w2 ⟨rfl,hb2⟩
  have A2:=Qh (A1.out.quiet hb2)
  clear hb2 A1
  go_wp2
  go_ret
  exact ⟨rfl,A2.out.bel⟩
 have e1:right41I l=1:=by rw [right41I,hg];rfl
 obtain ⟨⟨hl8,hses,_⟩,hck⟩:=Xdx hwf hg
 rw [e1] at Hri
 have Hses:=Qh hses
 have Hck:=Qh hck
 have Hv:=Qh hv
 have HI:=Qh hI
 obtain ⟨ao,cap,rfl,_,_,_⟩:=id hv
 clear e1 hg hv hses hck hI hwf
 go_enter Tryz.func7,Tryz.ntmps7
 go_wp2_with fail
 refine (Hal.out _ A0.out.ok).mono ?_
 rintro e1 w1 ⟨rfl,hb1⟩
 have A1:=Qh (A0.out.quiet hb1)
 clear hb1 A0
 go_wp2_with fail
 refine (Hri.out _ A1.out.ok).mono ?_
 rintro e2 w2 ⟨rfl,hb2⟩
 have A2:=Qh (A1.out.quiet hb2)
 clear hb2 A1
 obtain ⟨B,hB⟩:∃B,w2.heap.size=B:=⟨_,rfl⟩
 have Hm3:=Qh (show (w2.alloc (.map #[] 0)).ownsMap Tryz.prog 9 (plainElem (H:=Unit) Tryz.prog 3) B 0 (.map []) by rw [←hB];exact World.ownsMap_made _ _ _ _)
 have hwB:w.heap.size≤B:=by rw [←hB];exact A2.out.size
 have hIB:I B=none:=A2.out.ok.fresh (by omega)
 have A3:=Qh (A2.out.past (.map #[] 0))
 clear A2 Hal Hri
 go_wp2_with fail
 (try rw [hB])
 go_loopw [22] (fun s22 wr=> ∃(k:Nat) (D:DataW Unit),k≤l.length∧s22= .int .i64 k∧wr.ownsMap Tryz.prog 9 (plainElem (H:=Unit) Tryz.prog 3) B (30*k) D∧MapIs D ((l.take k).flatMap Ses.ents)∧MAt I w I wr) (fun i _=>l.length-(intOf i).toNat)
 case atStart=>exact ⟨0,_,Nat.zero_le _,rfl,Hm3.out,mapIs_nil,A3.out⟩
 case round=>
  clear A3 Hm3 hmm hB
  obtain ⟨k,D,hk,rfl,hown,hM,hA⟩:=hrel
  have Hown:=Qh hown
  have HM:=Qh hM
  have HA:=Qh hA
  clear hown hM hA
  by_cases hlt:k<l.length
  ·obtain ⟨x,vy,b,off,cap',hlx,hvv,⟨d0,d1,d2,d3,d4,d5⟩,h1⟩:=Xdc Hv.out HA.out.ok k hlt
   cases hvv
   obtain ⟨oy,cy,rfl,_,_,_⟩:=id h1
   have hx30:=(Hses.out x (by rw [←hlx];exact List.getElem_mem hlt)).nents
   have Hxg:=Qh (Hses.out x (by rw [←hlx];exact List.getElem_mem hlt))
   have Hx:=Qh h1
   have Hes:=Qh (ents_snoc hlt hlx)
   clear hlx h1
   have Hown1:=Qh (Hown.out.alloc (.cells #[.int .i64 x.num,.int .i64 x.date,S x.prev,.slice oy x.ents.length cy,S x.stream,S x.sl] 47))
   have HA1:=Qh (HA.out.past (.cells #[.int .i64 x.num,.int .i64 x.date,S x.prev,.slice oy x.ents.length cy,S x.stream,S x.sl] 47))
   clear Hown HA
   go_wp2_with fail
   go_loopw [29] (fun s29 wr=> ∃(j:Nat) (D:DataW Unit),j≤x.ents.length∧s29= .int .i64 j∧wr.ownsMap Tryz.prog 9 (plainElem (H:=Unit) Tryz.prog 3) B (30*k+j) D∧MapIs D ((l.take k).flatMap Ses.ents++x.ents.take j)∧MAt I w I wr) (fun i _=>x.ents.length-(intOf i).toNat)
   case atStart=>exact ⟨0,D,Nat.zero_le _,rfl,Hown1.out,by simpa using HM.out,HA1.out⟩
   case round=>
    clear Hown1 HA1 HM d0 d1 d2 d3 d4 d5
    obtain ⟨j,D,hj,rfl,hown,hM,hA⟩:=hrel
    have Hown:=Qh hown
    have HM:=Qh hM
    have HA:=Qh hA
    clear hown hM hA
    by_cases hjt:j<x.ents.length
    ·obtain ⟨e,vxa,vxx,b2,off2,cap2,hle,hvv,⟨x0,x1,x2,x3,x4,x5,x6⟩,h1,h2⟩:=Xbt Hx.out HA.out.ok j hjt
     cases hvv
     obtain ⟨xa,xc,rfl,_,_,_⟩:=id h1
     obtain ⟨xx,xd,rfl,_,_,_⟩:=id h2
     have hpl:=Hxg.out.path e (by rw [←hle];exact List.getElem_mem hjt)
     have Hst:=Qh (show (l.take k).flatMap Ses.ents++x.ents.take (j+1)=((l.take k).flatMap Ses.ents++x.ents.take j)++ [e] by rw [List.take_succ_eq_append_getElem hjt,hle,List.append_assoc])
     have Hown1:=Qh (Hown.out.alloc (.cells #[.int .i64 e.kind,S e.path,.slice xa e.attrs.length xc,S e.target,.int .i64 e.size,S e.digest,.slice xx e.exts.length xd] 39))
     have HA1:=Qh (HA.out.past (.cells #[.int .i64 e.kind,S e.path,.slice xa e.attrs.length xc,S e.target,.int .i64 e.size,S e.digest,.slice xx e.exts.length xd] 39))
     have HD:=Qh Hown.out.isMap
     have hlen:cntE e.path ((l.take k).flatMap Ses.ents++x.ents.take j)≤1000:=Nat.le_trans (List.length_filter_le _ _) (by
      have:=ents_le (l.take k) (fun x hx=>(Hses.out x (List.mem_of_mem_take hx)).nents)
      rw [List.length_take] at this
      rw [List.length_append,List.length_take]
      omega)
     generalize (l.take k).flatMap Ses.ents++x.ents.take j=es at HM Hst hlen
     clear hle h1 h2 Hown HA
     by_cases h3:e.kind≤3
     ·have dk:decide (e.kind≤3)=true:=Qt h3
      obtain ⟨n,hn⟩:∃n,cntE e.path es=n:=⟨_,rfl⟩
      have hn2:n≤1000:=by rw [←hn];exact hlen
      have Hput:=Qh (mapIs_put HM.out HD.out h3)
      have Hcn:=Qh (fun c hc=>cnt_of (c:=c) (p:=e.path) HM.out hc)
      rw [hn] at Hput Hcn
      have hwr:IntKind.i64.wrap ((n:Int)+1)=(n:Int)+1:=IntWalk.i64_in _ (by omega)
      have Hkey:=Qh (mkey e.path (by omega))
      clear hn HM HD h3
      go_wp2_with (first
       |(at_lookup;refine wpList_lookup_own_int _ rfl _ _ 52 rfl 9 3 .i64 mlaw Tryz.underlying52 Tryz.underlying3 (mzero _) B _ D rfl Hown1.out _ _ rfl Hkey.out ?_;intro c hat hwc;obtain rfl:=Hcn.out c hat)
       |(at_mapUpdate;refine wpList_mapUpdate_own _ rfl _ _ _ 52 rfl 9 3 mlaw Tryz.underlying52 _ B _ D rfl Hown1.out (by unfold maxLen;omega) _ _ _ rfl rfl Hkey.out _ [] (plainElem_int Tryz.underlying3 (WalkArith.wf_i64 (by omega))) ?_))
      intro w1 hown1 hgrow1
      have HA2:=Qh (HA1.out.grown hgrow1 hIB hwB)
      have Hown2:=Qh hown1
      clear hown1 hgrow1 Hown1 HA1 x0 x1 x2 x3 x4 x5 x6
      go_wp2
      go_roundw
      case rel=>exact ⟨j+1,_,by omega,by go_num,Hown2.out,by rw [Hst.out];exact Hput.out,HA2.out⟩
      case measure=>simp [intOf];omega
     ·have dk:decide (e.kind≤3)=false:=Qf h3
      have Hsk:=Qh (mapIs_skip HM.out h3)
      clear h3 HM HD
      go_wp2
      go_roundw
      case rel=>exact ⟨j+1,D,by omega,by go_num,Hown1.out.mono (by omega),by rw [Hst.out];exact Hsk.out,HA1.out⟩
      case measure=>simp [intOf];omega
    ·have hall:x.ents.take j=x.ents:=List.take_of_length_le (by omega)
     rw [hall] at HM
     clear hall
     go_wp2
     go_roundw
     case rel=>exact ⟨k+1,D,by omega,by go_num,Hown.out.mono (by omega),by rw [Hes.out];exact HM.out,HA.out⟩
     case measure=>simp [intOf];omega
  ·have hke:k=l.length:=by omega
   subst hke
   rw [List.take_length] at HM
   obtain ⟨n,hn⟩:∃n,30*l.length=n:=⟨_,rfl⟩
   rw [hn] at Hown
   clear hn hk hlt
   go_wp2_with (first
    |(at_range;refine wpList_range_own _ rfl _ 52 rfl 9 3 mlaw Tryz.underlying52 _ B n D rfl Hown.out ?_;intro w0 hrg0 hg0 hs0))
   go_frame
   obtain ⟨r,hr⟩:∃r,wr.heap.size=r:=⟨_,rfl⟩
   have hJr:I r=none:=HA.out.ok.fresh (by omega)
   have hwr:w.heap.size≤r:=by rw [←hr];exact HA.out.size
   have HA0:=Qh (HA.out.quiet (W':=w0) ⟨hg0.os,hg0.tape,hg0.output,hg0.size,fun k hk=>hg0.block k hk (by simp)⟩)
   rw [hr] at hrg0 ⊢
   have Hrg0:=Qh hrg0
   clear HA Hown hg0 hs0 hr hrg0
   go_loopw [8] (fun _ W=> ∃(left:Lit→Bool) (cnt:Nat) (J:IH),W.ranges Tryz.prog 9 (plainElem (H:=Unit) Tryz.prog 3) B r n D left cnt∧MAt I w J W∧J B=none∧J r=none) (fun _ W=>W.rangeLeft B r)
   case atStart=>exact ⟨_,_,I,Hrg0.out,HA0.out,hIB,hJr⟩
   case round=>
    clear Hrg0 HA0
    obtain ⟨left,cnt,J,hrg,hA,hJB,hJr'⟩:=hrel
    have HA:=Qh hA
    have HrgP:=Qh hrg.left_eq
    go_wp2_with (first
     |(at_next;refine wpList_next_ranges _ rfl _ rfl 9 mlaw (plainElem (H:=Unit) Tryz.prog 3) (fun p:Bytes=>S p) (fun c:Int=> .int .i64 c) key_inv val_inv B r n D left cnt rfl hrg ?_ ?_))
    ·intro hc0 hl0
     clear hrg
     go_wp2
     go_ret
     exact ⟨rfl,HA.out.bel⟩
    ·intro p c kl d ps w1 cnt1 hkey hl hR hat hrg1 hlt1 hg1 hs1 hen
     obtain rfl:=key_lit hkey
     obtain ⟨hc,e0,he0,hep⟩:=came HM.out hat (val_lit hR)
     rw [cnt_wr,←ver_count p l nilS] at hc
     have hp:p.length≤4294967280:=by
      obtain ⟨x,hx,hex⟩:=List.mem_flatMap.1 he0
      have:=(Hses.out x hx).path e0 hex
      rw [hep] at this
      omega
     have A1:=Qh (HA.out.grown hg1 hJr' hwr)
     have Hvs:=Qh (fun w hw=>Xcj J (HI.out.mono HA.out.keep) (.slice ao l.length cap) l (Hv.out.mono HA.out.keep) Hses.out (by omega) (Xfb Hck.out) p hp w hw)
     have Halt:=Qh (ver_first Hck.out p)
     have Hpl:=Qh (fun z (hz:z∈verP l p)=>ver_place Hck.out hz)
     have Hpa:=Qh (fun z (hz:z∈verP l p)=>(ver_path (p:=p) (xs:=l) (s:=nilS) (v:=z) hz))
     obtain ⟨vs,hvs⟩:∃vs,verP l p=vs:=⟨_,rfl⟩
     rw [hvs] at Hvs Halt Hpl Hpa
     rw [show verFrom p nilS l=vs from hvs] at hc
     have Hc:=Qh hc
     have Hrg1:=Qh hrg1
     have hBr:B<w1.heap.size∧r<w1.heap.size:=⟨hrg1.owns.lt,hrg1.lt⟩
     clear hrg hg1 hs1 hkey hl hR hat hrg1 hvs hc hp he0 hep hA
     generalize (fun z=>left z&& !z.sameKey (Lit.string p))=lf at Hrg1
     go_wp2_with fail
     refine (Hvs.out _ A1.out.ok).mono ?_
     rintro e2 w2 ⟨v2,J2,rfl,hb2,hx2,hok2,hr2⟩
     obtain ⟨a2,c2,rfl,_,_,_⟩:=id hr2
     have A2:=Qh (A1.out.ext hb2 hx2 hok2)
     have R2:=Qh hr2
     have Hrg2:=Qh (Hrg1.out.kept (row:=none) ⟨hb2.os,hb2.tape,hb2.output,hb2.size,fun k hk _=>hb2.block k hk⟩ (by simp) (by simp))
     have hJB2:J2 B=none:=(hx2 B hBr.1).trans hJB
     have hJr2:J2 r=none:=(hx2 r hBr.2).trans hJr'
     have Hv2:=Qh (Hv.out.mono A2.out.keep)
     have hvl:=hr2.len_le
     clear hb2 hx2 hok2 hr2 Hrg1 A1 Hvs hBr
     go_wp2_with fail
     go_loopw [54,10,11] (fun s54 s10 s11 W=> ∃(i:Nat) (rm:Bool),i≤vs.length∧s54= .int .i64 i∧s10= .int .i64 (((vs.take i).filter keeps).length:Nat)∧s11= .bool rm∧AltOk rm (vs.drop i)∧W.ranges Tryz.prog 9 (plainElem (H:=Unit) Tryz.prog 3) B r n D lf cnt1∧MAt I w J2 W) (fun i _ _ _=>vs.length-(intOf i).toNat)
     case atStart=>exact ⟨0,true,Nat.zero_le _,rfl,rfl,rfl,Halt.out,Hrg2.out,A2.out⟩
     case round=>
      clear Halt Hrg2 A2
      obtain ⟨i,rm,hi,rfl,rfl,rfl,halt,hrg,hA⟩:=hrel
      have A3:=Qh hA
      have Hrg:=Qh hrg
      clear hrg hA
      obtain ⟨kk,hkk⟩:∃kk,((vs.take i).filter keeps).length=kk:=⟨_,rfl⟩
      have hkl:kk≤i:=by rw [←hkk];exact Nat.le_trans (List.length_filter_le _ _) (by rw [List.length_take];omega)
      rw [hkk]
      by_cases hit:i<vs.length
      ·obtain ⟨z,va,vx,b,off,cap',hlz,hvv,⟨c0,c1,c2,c3,c4,c5,c6,c7,c8⟩,h1,h2⟩:=Xqg R2.out A3.out.ok i hit
       cases hvv
       have zm:z∈vs:=by rw [←hlz];exact List.getElem_mem hit
       obtain ⟨jj,hjl,hzs,hzd⟩:=Hpl.out z zm
       have Hkp:=Qh (keeps_snoc hit hlz)
       rw [hkk] at Hkp
       rw [List.drop_eq_getElem_cons hit,hlz] at halt
       unfold AltOk at halt
       obtain ⟨xa,xc,rfl,_,_,_⟩:=id h1
       obtain ⟨xx,xd,rfl,_,_,_⟩:=id h2
       have A4:=Qh (A3.out.past (.cells #[.int .i64 z.s,.int .i64 z.d,.int .i64 z.e.kind,S z.e.path,.slice xa z.e.attrs.length xc,S z.e.target,.int .i64 z.e.size,S z.e.digest,.slice xx z.e.exts.length xd] 43))
       have Hrg4:=Qh (Hrg.out.alloc (.cells #[.int .i64 z.s,.int .i64 z.d,.int .i64 z.e.kind,S z.e.path,.slice xa z.e.attrs.length xc,S z.e.target,.int .i64 z.e.size,S z.e.digest,.slice xx z.e.exts.length xd] 43))
       clear hkk hlz h1 h2
       by_cases h4:z.e.kind=4
       ·rw [if_pos h4] at halt
        obtain ⟨rfl,halt⟩:=halt
        have e4:(z.e.kind==4)=true:=by simpa using h4
        have Hal:=Qh halt
        rw [if_pos h4] at Hkp
        clear halt h4 hzs hzd zm
        go_wp2
        go_roundw
        case rel=>exact ⟨i+1,true,by omega,by go_num,by rw [Hkp.out];rfl,rfl,Hal.out,Hrg4.out,A4.out⟩
        case measure=>simp [intOf];omega
       ·rw [if_neg h4] at halt
        have e4:(z.e.kind==4)=false:=by simpa using h4
        have hpath:=Hpa.out z zm h4
        have Hal:=Qh halt
        rw [if_neg h4] at Hkp
        obtain ⟨x,vy,b3,off3,cap3,hlx,hvv,⟨d0,d1,d2,d3,d4,d5⟩,h1⟩:=Xdc Hv2.out A3.out.ok jj hjl
        cases hvv
        rw [hlx] at hzd
        rw [hzs] at c0
        rw [hzd] at c1
        rw [hpath] at c3
        have A5:=Qh (A3.out.past (.cells #[.int .i64 ((jj:Int)+1),.int .i64 x.date,.int .i64 z.e.kind,S p,.slice xa z.e.attrs.length xc,S z.e.target,.int .i64 z.e.size,S z.e.digest,.slice xx z.e.exts.length xd] 43))
        have Hrg5:=Qh (Hrg.out.alloc (.cells #[.int .i64 ((jj:Int)+1),.int .i64 x.date,.int .i64 z.e.kind,S p,.slice xa z.e.attrs.length xc,S z.e.target,.int .i64 z.e.size,S z.e.digest,.slice xx z.e.exts.length xd] 43))
        have row:=heap_alloc_new wr (.cells #[.int .i64 ((jj:Int)+1),.int .i64 x.date,.int .i64 z.e.kind,S p,.slice xa z.e.attrs.length xc,S z.e.target,.int .i64 z.e.size,S z.e.digest,.slice xx z.e.exts.length xd] 43)
        have k0:=cell_regrown ((cell_of_row _ _ 0 _ _ _ row).trans rfl)
        have k1:=cell_regrown ((cell_of_row _ _ 1 _ _ _ row).trans rfl)
        have k3:=cell_regrown ((cell_of_row _ _ 3 _ _ _ row).trans rfl)
        have d1':=cell_regrown (Xab (.cells #[.int .i64 ((jj:Int)+1),.int .i64 x.date,.int .i64 z.e.kind,S p,.slice xa z.e.attrs.length xc,S z.e.target,.int .i64 z.e.size,S z.e.digest,.slice xx z.e.exts.length xd] 43) d1)
        have ls:decide ((jj:Int)+1<1)=false:=Qf (by omega)
        have gt:decide ((l.length:Int)<(jj:Int)+1)=false:=Qf (by omega)
        have hsub:IntKind.i64.wrap (jj:Int)=(jj:Int):=IntWalk.i64_in _ (by omega)
        have hj0:(0:Int)≤(jj:Int):=by omega
        have hj1:(jj:Int)<(l.length:Int):=by omega
        have hkw:IntKind.i64.wrap ((kk:Int)+1)=(kk:Int)+1:=IntWalk.i64_in _ (by omega)
        clear halt h4 hlx h1 zm d0 d1 d2 d3 d4 d5 hzs hzd hpath A3 A4 Hrg Hrg4 row
        go_wp2_with fail
        obtain ⟨W4,hW4⟩:∃W4,wr.alloc (.cells #[.int .i64 ((jj:Int)+1),.int .i64 x.date,.int .i64 z.e.kind,S p,.slice xa z.e.attrs.length xc,S z.e.target,.int .i64 z.e.size,S z.e.digest,.slice xx z.e.exts.length xd] 43)=W4:=⟨_,rfl⟩
        rw [hW4] at A5 Hrg5 k0 k1 k3 d1'
        change Code.wp _ _ _ _ (wr.alloc (.cells #[.int .i64 ((jj:Int)+1),.int .i64 x.date,.int .i64 z.e.kind,S p,.slice xa z.e.attrs.length xc,S z.e.target,.int .i64 z.e.size,S z.e.digest,.slice xx z.e.exts.length xd] 43))
        rw [hW4]
        clear c0 c1 c2 c3 c4 c5 c6 c7 c8 hW4
        refine wp_region_quiet_below (by kernel_rfl) (by kernel_rfl) ?_
        repeat (go_big_quiet_step ((fail)))
        refine wpQuiet_nil ?_
        intro W5 hwq
        have hb5:Below (W4).heap.size (W4) W5:=by
         obtain ⟨pq,rfl⟩:=hwq
         exact below_regrown _ _ _
        clear hwq
        have A6:=Qh (A5.out.quiet hb5)
        have Hrg6:=Qh (Hrg5.out.kept (row:=none) ⟨hb5.os,hb5.tape,hb5.output,hb5.size,fun k hk _=>hb5.block k hk⟩ (by simp) (by simp))
        clear hb5 A5 Hrg5 k0 k1 k3 d1'
        go_wp2
        go_roundw
        case rel=>exact ⟨i+1,false,by omega,by go_num,by rw [Hkp.out];go_num,rfl,Hal.out,Hrg6.out,A6.out⟩
        case measure=>simp [intOf];omega
      ·have hall:vs.take i=vs:=List.take_of_length_le (by omega)
       rw [hall] at hkk
       have hcc:((kk:Int) != c)=false:=by rw [Hc.out];unfold verP at *;simp;omega
       clear halt hall
       go_wp2
       go_roundw
       case rel=>exact ⟨lf,cnt1,J2,Hrg.out,A3.out,hJB2,hJr2⟩
       case measure=>rw [Hrg.out.left_eq,HrgP.out];exact hlt1
end Go.Proofs.YtdeknddamidldaaGreatDoor
