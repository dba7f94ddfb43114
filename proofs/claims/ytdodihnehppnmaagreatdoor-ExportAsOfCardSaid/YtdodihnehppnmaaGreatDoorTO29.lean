/-
  Walks and laws that the claim's theorem uses: texts EgB, joined; comments out. Conditions: as each theorem says.
-/
import Derived.Test.YtdodihnehppnmaaGreatDoorTO26
import Derived.Test.YtdodihnehppnmaaGreatDoorTO18
import Derived.Test.YtdodihnehppnmaaGreatDoorTO28
set_option linter.all false
namespace Go.Proofs.YtdodihnehppnmaaGreatDoor
open Go.RowKit
theorem Xxh {α:Type} {T:Ty α} {E:TypeId} {I:IH} (W:World):OwnS T E I (W.alloc (.cells #[] E)) W.heap.size (.slice (some ⟨W.heap.size,0,none⟩) 0 0) []:=
 ⟨[],World.ownsRow_made W #[] 0 (Qn _) (Nat.zero_le _) (e:=E) (size:=T.size) (by simp),LiesL.nil _ _⟩
theorem Xiy {L:List Ses} {k:Nat} (hk:k<L.length) {x:Ses} (hx:L[k]=x):strmsP (L.take (k+1))=strmsP (L.take k)++ [x.stream]:=by
 unfold strmsP
 rw [List.take_succ_eq_append_getElem hk,hx,List.map_append]
 rfl
theorem Xhg (L:List Ses):(strmsP L).length=L.length:=by simp [strmsP]
def conQ (g:Bytes × Int) (e:Ent):Bytes × Int:=if g.2≠0 then ([],g.2) else if (g.1.length:Int)≠e.size∨sumP g.1≠e.digest then ([],5) else (g.1,0)
theorem Xl8 {st:List Bytes} {e:Ent} (h:e.kind=1):conP st e=conQ (getP st e.exts) e:=by
 unfold conP conQ
 rw [if_neg (by omega)]
theorem Xpd {st:List Bytes} {e:Ent} (h:e.kind≠1):conP st e=([],10):=by
 unfold conP
 rw [if_pos h]
abbrev caL (ct:Bytes) (n m:Nat) (sz:Int) (dg ed:Bytes) (bb:Bool) (x:Nat):List (Option Tmp × Value):=
 [(some 38,S ct),(some 39,.int .i64 (n:Int)),(some 40,.pointer (some ⟨m,4,none⟩)),(some 41,.int .i64 sz),(some 42,.bool false),(some 43,.bool false),(some 44,S ct),(some 45,.slice (some ⟨x,0,none⟩) 1 1),(some 46,S dg),(some 47,.pointer (some ⟨m,5,none⟩)),(some 48,S ed),(some 49,.bool bb),(some 50,.bool bb),(some 37,.bool bb)]
theorem Xea {ct:Bytes} {n m:Nat} {sz:Int} {dg ed:Bytes} {bb:Bool} {x:Nat}:ApartF (caL ct n m sz dg ed bb x):=by
 unfold ApartF
 simp
abbrev rsL (so:Option Addr) (l sc m:Nat) (ax:Option Addr) (xl cx n:Nat) (ct:Bytes) (er:Int) (x:Option Addr × Nat):List (Option Tmp × Value):=
 [(some 12,.slice so l sc),(some 13,.slice x.1 n x.2),(some 14,.pointer (some ⟨m,6,none⟩)),(some 15,.slice ax xl cx),(some 16,.tuple #[S ct,.int .i64 er]),(some 11,.tuple #[S ct,.int .i64 er]),(some 17,S ct),(some 18,.int .i64 er),(some 6,S ct),(some 7,.int .i64 er)]
theorem Xdy {so:Option Addr} {l sc m:Nat} {ax:Option Addr} {xl cx n:Nat} {ct:Bytes} {er:Int} {x:Option Addr × Nat}:ApartF (rsL so l sc m ax xl cx n ct er x):=by
 unfold ApartF
 simp
abbrev cbL (ct:Bytes) (n m:Nat) (sz:Int) (dg ed:Bytes) (bb:Bool) (x:Nat):List (Option Tmp × Value):=
 [(some 22,S ct),(some 23,.int .i64 (n:Int)),(some 24,.pointer (some ⟨m,4,none⟩)),(some 25,.int .i64 sz),(some 26,.bool false),(some 27,.bool false),(some 28,S ct),(some 29,.slice (some ⟨x,0,none⟩) 1 1),(some 30,S dg),(some 31,.pointer (some ⟨m,5,none⟩)),(some 32,S ed),(some 33,.bool bb),(some 34,.bool bb)]
theorem Xd9 {ct:Bytes} {n m:Nat} {sz:Int} {dg ed:Bytes} {bb:Bool} {x:Nat}:ApartF (cbL ct n m sz dg ed bb x):=by
 unfold ApartF
 simp
set_option maxRecDepth 100000 in
set_option maxHeartbeats 1000000 in
theorem Xna (I:IH) (v:Value) (L:List Ses) (hv:RdS tSes I v L) (hn:L.length≤1000) (w:World) (hw:Ok I w):
 Calls Tryz.prog 37 #[v] w fun e w'=> ∃v',e= .returned v'∧OwnS tStr 9 I w' w.heap.size v' (strmsP L)∧Below w.heap.size w w':=by
 have Hv:=Qh hv
 obtain ⟨so,sc,rfl,_,_,_⟩:=id hv
 clear hv
 have Hok:=Qh (fun b (h:w.heap.size≤b)=>hw.fresh h)
 have hO0:=Qh (Xxh (T:=tStr) (E:=9) (I:=I) w)
 have hok0:Ok I (w.alloc (.cells #[] 9)):=hw.alloc _
 have hb0:Below w.heap.size w (w.alloc (.cells #[] 9)):=(Qb _ _).alloc (Qn _) _
 go_enter Tryz.func37,Tryz.ntmps37
 go_wp2_with fail
 go_loopw [3,4] (fun s3 s4 wr=> ∃k:Nat,k≤L.length∧s4= .int .i64 k∧OwnS tStr 9 I wr w.heap.size s3 (strmsP (L.take k))∧Ok I wr∧Below w.heap.size w wr) (fun _ i _=>L.length-(intOf i).toNat)
 case atStart=>exact ⟨0,Nat.zero_le _,rfl,hO0.out,hok0,hb0⟩
 case round=>
  clear hok0 hb0 hO0
  obtain ⟨k,hk,rfl,hO,hok,hb⟩:=hrel
  have HO:=Qh hO
  have HK:=Qh hok
  clear hO hok
  by_cases hlt:k<L.length
  ·obtain ⟨x,ve,b,off,cap',hlx,hvv,⟨c0,c1,c2,c3,c4,c5⟩,h1⟩:=Xgs Hv.out HK.out k hlt
   cases hvv
   have Hkl:=Qh (show (strmsP (L.take k)).length=k by rw [Xhg,List.length_take];omega)
   have Hst:=Qh (Xiy hlt hlx)
   have hszb:=hb.size
   clear hlx h1
   go_wp2_with (at_builtin
                refine Xad (w0:=wr) Xgw rfl _ _ rfl w.heap.size _ _ rfl HO.out x.stream [S x.stream] _ (by first|rfl|simp [Act.eval]) rfl (by rw [Hkl.out];omega) (by rw [Hkl.out];omega) (by omega) ?_
                intro v5 w5 ho5 hg5)
   go_roundw
   case rel=>exact ⟨k+1,by omega,by go_num,by rw [Hst.out];exact ho5,HK.out.own hg5 HO.out (fun b hb=>Hok.out b hb),Below.own hb hg5 HO.out (Qn _) (by omega)⟩
   case measure=>simp [intOf];omega
  ·have hke:k=L.length:=by omega
   subst hke
   rw [List.take_length] at HO
   go_wp2
   go_ret
   exact ⟨_,rfl,HO.out,hb⟩
theorem Xoa {L:List Ses} (hg:∀x∈L,SesG x):∀s∈strmsP L,s.length≤9223372036854775807:=by
 intro s hs
 obtain ⟨x,hx,rfl⟩:=List.mem_map.1 hs
 have:=(hg x hx).stream
 omega
set_option maxRecDepth 100000 in
set_option maxHeartbeats 4000000 in
theorem Xqc (I:IH) (v:Value) (L:List Ses) (hv:RdS tSes I v L) (hg:∀x∈L,SesG x) (hn:L.length≤1000) (e:Ent) (va vx:Value) (hva:RdS tAt I va e.attrs) (hvx:RdS tXt I vx e.exts) (w:World) (hw:Ok I w):
 Calls Tryz.prog 14 #[v,entV e va vx] w fun r w'=>r= .returned (.tuple #[S (conP (strmsP L) e).1,.int .i64 (conP (strmsP L) e).2])∧Below w.heap.size w w':=by
 have Hv:=Qh hv
 have Hvx:=Qh hvx
 obtain ⟨so,sc,rfl,_,_,_⟩:=id hv
 obtain ⟨aa,ca,rfl,_,_,_⟩:=id hva
 obtain ⟨ax,cx,rfl,_,_,_⟩:=id hvx
 have Hbd:=Qh (Xoa hg)
 have hb0:Below w.heap.size w (w.alloc (.cells #[.int .i64 e.kind,S e.path,.slice aa e.attrs.length ca,S e.target,.int .i64 e.size,S e.digest,.slice ax e.exts.length cx] 26)):=(Qb _ _).alloc (Qn _) _
 have hok0:Ok I (w.alloc (.cells #[.int .i64 e.kind,S e.path,.slice aa e.attrs.length ca,S e.target,.int .i64 e.size,S e.digest,.slice ax e.exts.length cx] 26)):=hw.alloc _
 have HB0:=Qh (entB (W:=w) (e:=e) (va:= .slice aa e.attrs.length ca) (vx:= .slice ax e.exts.length cx) (t:=26) rfl (Qb _ _))
 have Hok:=Qh (fun b (h:w.heap.size≤b)=>hw.fresh h)
 have hO0:=Qh (OwnS.nil tStr 9 I (w.alloc (.cells #[.int .i64 e.kind,S e.path,.slice aa e.attrs.length ca,S e.target,.int .i64 e.size,S e.digest,.slice ax e.exts.length cx] 26)) (w.heap.size+1))
 clear hv hg hva hvx
 by_cases hk:e.kind=1
 ·rw [Xl8 hk]
  obtain ⟨N,hN⟩:∃N,conQ (getP (strmsP L) e.exts) e=N:=⟨_,rfl⟩
  rw [hN]
  have HN:=Qh hN
  have k0:(e.kind != 1)=false:=by rw [hk];rfl
  clear hk hN
  obtain ⟨c0,c1,c2,c3,c4,c5,c6⟩:=HB0.out
  go_enter Tryz.func14,Tryz.ntmps14
  go_wp2_with fail
  go_loopw [6,8,16] (fun s6 _ s16 wr=> ∃k:Nat,k≤L.length∧s16= .int .i64 k∧OwnS tStr 9 I wr (w.heap.size+1) s6 (strmsP (L.take k))∧Ok I wr∧Below w.heap.size w wr∧w.heap.size+1≤wr.heap.size∧EntB wr w.heap.size e (.slice aa e.attrs.length ca) (.slice ax e.exts.length cx)) (fun _ _ i _=>L.length-(intOf i).toNat)
  case atStart=>exact ⟨0,Nat.zero_le _,rfl,hO0.out,hok0,hb0,by simp,HB0.out⟩
  case round=>
   clear hok0 hb0 hO0 HB0 c0 c1 c2 c3 c4 c5 c6
   obtain ⟨k,hk,rfl,hO,hok,hb,hsz,hE⟩:=hrel
   have HO:=Qh hO
   have HK:=Qh hok
   have HE:=Qh hE
   clear hO hok hE
   by_cases hlt:k<L.length
   ·obtain ⟨x,ve,b,off,cap',hlx,hvv,⟨c0,c1,c2,c3,c4,c5⟩,h1⟩:=Xgs Hv.out HK.out k hlt
    cases hvv
    obtain ⟨oe,ce,rfl,_,_,_⟩:=id h1
    have Hkl:=Qh (show (strmsP (L.take k)).length=k by rw [Xhg,List.length_take];omega)
    have Hst:=Qh (Xiy hlt hlx)
    have hba:=hb.alloc hb.size (.cells #[.int .i64 x.num,.int .i64 x.date,S x.prev,.slice oe x.ents.length ce,S x.stream,S x.sl] 35)
    have HOa:=Qh (HO.out.alloc (.cells #[.int .i64 x.num,.int .i64 x.date,S x.prev,.slice oe x.ents.length ce,S x.stream,S x.sl] 35))
    have HEa:=Qh (HE.out.past (.cells #[.int .i64 x.num,.int .i64 x.date,S x.prev,.slice oe x.ents.length ce,S x.stream,S x.sl] 35))
    have hoka:=HK.out.alloc (.cells #[.int .i64 x.num,.int .i64 x.date,S x.prev,.slice oe x.ents.length ce,S x.stream,S x.sl] 35)
    have hsza:w.heap.size+1≤(wr.alloc (.cells #[.int .i64 x.num,.int .i64 x.date,S x.prev,.slice oe x.ents.length ce,S x.stream,S x.sl] 35)).heap.size:=by simp;omega
    clear hlx h1
    go_wp2_with (at_builtin
                 refine Xad (w0:=wr.alloc (.cells #[.int .i64 x.num,.int .i64 x.date,S x.prev,.slice oe x.ents.length ce,S x.stream,S x.sl] 35)) Xgw rfl _ _ rfl (w.heap.size+1) _ _ rfl HOa.out x.stream [S x.stream] _ (by first|rfl|simp [Act.eval]) rfl (by rw [Hkl.out];omega) (by rw [Hkl.out];omega) hsza ?_
                 intro v5 w5 ho5 hg5)
    go_roundw
    case rel=>exact ⟨k+1,by omega,by go_num,by rw [Hst.out];exact ho5,hoka.own hg5 HOa.out (fun b hb=>Hok.out b (by omega)),Below.own hba hg5 HOa.out (by omega) (by omega),Nat.le_trans hsza hg5.size,HEa.out.own hg5 (HOa.out.ne_lt (by omega))⟩
    case measure=>simp [intOf];omega
   ·have hke:k=L.length:=by omega
    subst hke
    rw [List.take_length] at HO
    obtain ⟨J,hx,hokJ,hrJ,_⟩:=HO.out.freeze HK.out (fun b hb=>Hok.out b (by omega))
    obtain ⟨ao,cp,rfl,_,_,_⟩:=id hrJ
    have hkp:∀b c,I b=some c→J b=some c:=fun b c hc=>by
     rw [hx b (by
      rcases Nat.lt_or_ge b w.heap.size with q|q
      ·omega
      ·rw [Hok.out b q] at hc;cases hc)]
     exact hc
    have Hget:=Qh (fun w hw=>Xxs J _ _ _ _ hrJ (Hvx.out.mono hkp) Hbd.out w hw)
    have HJ:=Qh hokJ
    clear hx hokJ hrJ hkp
    obtain ⟨c0,c1,c2,c3,c4,c5,c6⟩:=HE.out
    go_wp2_with fail
    refine (Hget.out _ HJ.out).mono ?_
    have hcl:=Xns (strmsP L) e.exts
    generalize getP (strmsP L) e.exts=g at hcl HN ⊢
    obtain ⟨ct,er⟩:=g
    dsimp only at hcl ⊢
    rintro r w1 ⟨rfl,hb1⟩
    have HE1:=Qh (HE.out.thru hb1)
    have hb1':=hb.trans (hb1.mono hb.size)
    clear HO HE HJ hb c0 c1 c2 c3 c4 c5 c6
    obtain ⟨c0,c1,c2,c3,c4,c5,c6⟩:=HE1.out
    by_cases he:er=0
    ·subst he
     by_cases hl:(ct.length:Int)=e.size
     ·have j1:((ct.length:Int) != e.size)=false:=by simpa using hl
      have Hsum:=Qh (fun b w hc hbl=>Xqv b ct (by omega) w hc hbl)
      obtain ⟨bb,hd⟩:∃bb,(!(sumP ct==e.digest))=bb:=⟨_,rfl⟩
      have Hbb:=Qh hd
      have Hl:=Qh hl
      clear hl
      go_wp2_with fail
      refine Xaj (X:=Nat) (caL ct ct.length w.heap.size e.size (sumP ct) e.digest bb) (RgF w1 7 226 227 228 (fun x w=>w.cell? ⟨x,0,none⟩=some (S ct)∧x<w.heap.size) (fun _ _=>True) (fun _ _=>True) (fun _ _=>True)) (by kernel_rfl) (by kernel_rfl) ?_ ?_ ?_
      ·exact ⟨0,RgF.start _ _⟩
      ·rintro x s' a' w' i hsz hcl ha hC hi
       obtain ⟨hun,oi,hoi,hall⟩:=mem_ready.1 hi
       have ev:=Xgk Xea ha
       rcases i with _|_|_|_|_|_|_|_|_|_|_|_|_|_|i
       rotate_left 14
       ·simp at hoi
       all_goals
        have hoj:=hoi
        simp at hoi
        subst hoi
        simp [Region.binds] at hall
        have hbw:=hC.off
        have c4:=Xaa hbw c4
        have c5:=Xaa hbw c5
        refine wpOp_step hoj (fun K' hK=> ?_)
        first|rw [if_pos (by rfl)]|rw [if_pos (by unfold Region.wanted;dsimp only;rw [Xa0 (j:=5) (t:=43) (b:=false) (by rfl) (by simp [ev,evF,hall])];rfl)]
       rotate_left 7
       ·unfold Oper.wp
        simp [go_sem,ev,evF,hall,Oper.upon,c4,c5,j1,hd]
        have ha:=ha.trans (Xfk (L:=caL ct ct.length w.heap.size e.size (sumP ct) e.digest bb x) (M:=caL ct ct.length w.heap.size e.size (sumP ct) e.digest bb w'.heap.size) [7] rfl (fun j hne=>by
         rcases j with _|_|_|_|_|_|_|_|_|_|_|_|_|_|j<;>first|rfl|(exact absurd (by decide) hne)|simp) (List.forall_mem_cons.2 ⟨Xco hun,List.forall_mem_nil _⟩))
        exact hK _ _ ⟨w'.heap.size,Xam Xea ha rfl hun,hC.step (hbw.trans (((Qb _ _).alloc (Qn _) _).mono hbw.size)) (fun _=>⟨by rw [World.cell?_alloc_new];rfl,by simp⟩) (fun _=>trivial) (fun _=>trivial) (fun _=>trivial)⟩
       ·have hcl1:=hC.f1 (by first|simpa using hall|simp [hall])
        unfold Oper.wp
        simp [go_sem,ev,evF,hall,Oper.upon]
        refine (Hsum.out x w' hcl1.1 hcl1.2).mono ?_
        rintro r4 w4 ⟨rfl,hb4⟩
        exact hK _ _ ⟨x,Xam Xea ha rfl hun,hC.step (hbw.trans (hb4.mono hbw.size)) (fun q=>q.elim (fun e=>absurd e (by decide)) (fun ⟨_,q⟩=>⟨Xaa hb4 q.1,Nat.lt_of_lt_of_le q.2 hb4.size⟩)) (fun _=>trivial) (fun _=>trivial) (fun _=>trivial)⟩
       all_goals
        unfold Oper.wp
        first
        |(simp [go_sem,ev,evF,hall,Oper.upon,c4,c5,j1,hd];exact hK _ _ ⟨x,Xam Xea ha rfl hun,hC.pure (by decide)⟩)
        |(simp [go_sem,ev,evF,Oper.upon,c4,c5,j1,hd];exact hK _ _ ⟨x,Xam Xea ha rfl hun,hC.pure (by decide)⟩)
      ·rintro x s' a' w2 hup ha hC
       rw [Xbe _ _ _ _ (fun i hi=>by rw [Nat.zero_add];exact hup i (by simpa using hi))] at ha
       subst ha
       simp only [fillAll,Act.put,List.setIfInBounds_toArray,List.set_cons_succ,List.set_cons_zero]
       have Hb2:=Qh (hb1'.trans (hC.off.mono hb1'.size))
       clear hd hb1'
       cases bb with
       |true=>
        have hne:sumP ct≠e.digest:=by simpa using Hbb.out
        have Hn:=Qh (show N=([],5) by rw [←HN.out];unfold conQ;rw [if_neg (by simp),if_pos (.inr hne)])
        clear hne
        go_wp2
        go_ret2
        rw [Hn.out]
        exact ⟨rfl,Hb2.out⟩
       |false=>
        have hne:sumP ct=e.digest:=by simpa using Hbb.out
        have Hn:=Qh (show N=(ct,0) by rw [←HN.out];unfold conQ;rw [if_neg (by simp),if_neg (by intro q;rcases q with q|q;exact q Hl.out;exact q hne)])
        clear hne
        go_wp2
        go_ret2
        rw [Hn.out]
        exact ⟨rfl,Hb2.out⟩
     ·have j1:((ct.length:Int) != e.size)=true:=by simpa using hl
      have Hn:=Qh (show N=([],5) by rw [←HN.out];unfold conQ;rw [if_neg (by simp),if_pos (.inl hl)])
      clear hl
      have g4:=cell_regrown c4
      go_wp2_with fail
      refine wp_region_quiet_below (by kernel_rfl) (by kernel_rfl) ?_
      repeat (first|go_big_quiet_step (fail)|refine BigFrame.wpQuiet_skip (by rfl) ?_)
      refine wpQuiet_nil ?_
      intro w2 hwq
      have hb2:Below w1.heap.size w1 w2:=by
       obtain ⟨pq,rfl⟩:=hwq
       exact below_regrown _ _ _
      clear hwq
      go_wp2
      go_ret2
      rw [Hn.out]
      exact ⟨rfl,hb1'.trans (hb2.mono hb1'.size)⟩
    ·have j1:(er != 0)=true:=by simpa using he
     have Hn:=Qh (show N=([],er) by rw [←HN.out];unfold conQ;rw [if_pos he])
     clear he
     go_wp2
     go_ret2
     rw [Hn.out]
     exact ⟨rfl,hb1'⟩
 ·rw [Xpd hk]
  have k0:(e.kind != 1)=true:=by simpa using hk
  clear hk
  obtain ⟨c0,c1,c2,c3,c4,c5,c6⟩:=HB0.out
  go_enter Tryz.func14,Tryz.ntmps14
  go_wp2
  go_ret2
  exact ⟨rfl,hb0⟩
set_option maxRecDepth 100000 in
set_option maxHeartbeats 4000000 in
theorem Xnb (I:IH) (v:Value) (L:List Ses) (hv:RdS tSes I v L) (hg:∀x∈L,SesG x) (hn:L.length≤1000) (e:Ent) (va vx:Value) (hva:RdS tAt I va e.attrs) (hvx:RdS tXt I vx e.exts) (w:World) (hw:Ok I w):
 Calls Tryz.prog 15 #[v,entV e va vx] w fun r w'=>r= .returned (.tuple #[S (conP (strmsP L) e).1,.int .i64 (conP (strmsP L) e).2])∧Below w.heap.size w w':=by
 have Hst:=Qh (fun w hw=>Xna I v L hv hn w hw)
 have Hvx:=Qh hvx
 obtain ⟨so,sc,rfl,_,_,_⟩:=id hv
 obtain ⟨aa,ca,rfl,_,_,_⟩:=id hva
 obtain ⟨ax,cx,rfl,_,_,_⟩:=id hvx
 have Hbd:=Qh (Xoa hg)
 have hb0:Below w.heap.size w (w.alloc (.cells #[.int .i64 e.kind,S e.path,.slice aa e.attrs.length ca,S e.target,.int .i64 e.size,S e.digest,.slice ax e.exts.length cx] 26)):=(Qb _ _).alloc (Qn _) _
 have hok0:Ok I (w.alloc (.cells #[.int .i64 e.kind,S e.path,.slice aa e.attrs.length ca,S e.target,.int .i64 e.size,S e.digest,.slice ax e.exts.length cx] 26)):=hw.alloc _
 obtain ⟨c0,c1,c2,c3,c4,c5,c6⟩:=entB (W:=w) (e:=e) (va:= .slice aa e.attrs.length ca) (vx:= .slice ax e.exts.length cx) (t:=26) rfl (Qb _ _)
 have C4:=Qh c4
 have C5:=Qh c5
 clear hv hg hva hvx
 by_cases hk:e.kind=1
 ·rw [Xl8 hk]
  obtain ⟨N,hN⟩:∃N,conQ (getP (strmsP L) e.exts) e=N:=⟨_,rfl⟩
  rw [hN]
  have HN:=Qh hN
  have k0:(e.kind != 1)=false:=by rw [hk];rfl
  clear hk hN
  have hslen:=Qh (Xhg L)
  have Hget:=Qh (fun J vs (hJ:∀b c,I b=some c→J b=some c) (hvs:RdS tStr J vs (strmsP L)) w hw=>Xq8 J vs _ (strmsP L) e.exts hvs (Hvx.out.mono hJ) Hbd.out w hw)
  obtain ⟨W1,hW1⟩:∃W1,w.alloc (.cells #[.int .i64 e.kind,S e.path,.slice aa e.attrs.length ca,S e.target,.int .i64 e.size,S e.digest,.slice ax e.exts.length cx] 26)=W1:=⟨_,rfl⟩
  have HW1:=Qh hW1
  rw [hW1] at hb0 hok0 c0 c1 c2 c3 c4 c5 c6 C4 C5
  have HokW:=Qh (fun b (h:W1.heap.size≤b)=>hok0.fresh h)
  have HK:=Qh hok0
  clear hW1
  have hcl:=Xns (strmsP L) e.exts
  generalize getP (strmsP L) e.exts=g at hcl Hget HN
  obtain ⟨ct,er⟩:=g
  dsimp only at hcl Hget ⊢
  go_enter Tryz.func15,Tryz.ntmps15
  go_wp2_with fail
  rw [HW1.out]
  clear HW1
  refine Xaj (X:=Option Addr × Nat) (rsL so L.length sc w.heap.size ax e.exts.length cx ((strmsP L).length) ct er) (RgF W1 1 222 223 224 (fun x w=>OwnS tStr 9 I w W1.heap.size (.slice x.1 (strmsP L).length x.2) (strmsP L)) (fun _ _=>True) (fun _ _=>True) (fun _ _=>True)) (by kernel_rfl) (by kernel_rfl) ?_ ?_ ?_
  ·exact ⟨default,RgF.start _ _⟩
  ·rintro x s' a' w' i hsz hcl ha hC hi
   obtain ⟨hun,oi,hoi,hall⟩:=mem_ready.1 hi
   have ev:=Xgk Xdy ha
   rcases i with _|_|_|_|_|_|_|_|_|_|i
   rotate_left 10
   ·simp at hoi
   all_goals
    have hoj:=hoi
    simp at hoi
    subst hoi
    simp [Region.binds] at hall
    have hbw:=hC.off
    have c6:=Xaa hbw c6
    refine wpOp_step hoj (fun K' hK=> ?_)
    first|rw [if_pos (by rfl)]
   rotate_left 1
   ·unfold Oper.wp
    simp [go_sem,ev,evF,hall,Oper.upon]
    refine (Hst.out w' (HK.out.below (Qn _) hbw)).mono ?_
    rintro r4 w4 ⟨v7,rfl,ho,hb4⟩
    obtain ⟨a7,k7,rfl⟩:=Xrj ho
    have ha:=ha.trans (Xfk (L:=rsL so L.length sc w.heap.size ax e.exts.length cx ((strmsP L).length) ct er x) (M:=rsL so L.length sc w.heap.size ax e.exts.length cx ((strmsP L).length) ct er (a7,k7)) [1] rfl (fun j hne=>by
     rcases j with _|_|_|_|_|_|_|_|_|_|j<;>first|rfl|(exact absurd (by decide) hne)|simp) (List.forall_mem_cons.2 ⟨Xco hun,List.forall_mem_nil _⟩))
    exact hK _ _ ⟨(a7,k7),Xam Xdy ha rfl hun,hC.step (hbw.trans (hb4.mono hbw.size)) (fun _=>ho.lower hbw.size) (fun _=>trivial) (fun _=>trivial) (fun _=>trivial)⟩
   rotate_left 2
   ·have hOw:=hC.f1 (by first|simpa using hall|simp [hall])
    obtain ⟨J7,hx7,hok7,hr7,_⟩:=hOw.freeze (HK.out.below (Qn _) hbw) (fun b hb=>HokW.out b hb)
    unfold Oper.wp
    simp [go_sem,ev,evF,hall,Oper.upon]
    refine (Hget.out J7 _ (hx7.keep HK.out (Qn _)) hr7 w' hok7).mono ?_
    rintro r4 w4 ⟨rfl,hb4⟩
    exact hK _ _ ⟨x,Xam Xdy ha rfl hun,hC.step (hbw.trans (hb4.mono hbw.size)) (fun q=>q.elim (fun e=>absurd e (by decide)) (fun ⟨_,q⟩=>q.below hb4)) (fun _=>trivial) (fun _=>trivial) (fun _=>trivial)⟩
   all_goals
    unfold Oper.wp
    first
    |(simp [go_sem,ev,evF,hall,Oper.upon,c6];exact hK _ _ ⟨x,Xam Xdy ha rfl hun,hC.pure (by decide)⟩)
    |(simp [go_sem,ev,evF,Oper.upon,c6];exact hK _ _ ⟨x,Xam Xdy ha rfl hun,hC.pure (by decide)⟩)
  ·rintro x s' a' wR hup ha hC
   rw [Xbe _ _ _ _ (fun i hi=>by rw [Nat.zero_add];exact hup i (by simpa using hi))] at ha
   subst ha
   simp only [fillAll,Act.put,List.setIfInBounds_toArray,List.set_cons_succ,List.set_cons_zero]
   have hb1':=hb0.trans (hC.off.mono hb0.size)
   replace c4:=Xaa hC.off C4.out
   replace c5:=Xaa hC.off C5.out
   clear hC hup c0 c1 c2 c3 c6 C4 C5 Hget Hst HK HokW
   by_cases he:er=0
   ·subst he
    by_cases hl:(ct.length:Int)=e.size
    ·have j1:((ct.length:Int) != e.size)=false:=by simpa using hl
     have Hsum:=Qh (fun b w hc=>Xpz b 0 1 ct (by omega) w hc)
     obtain ⟨bb,hd⟩:∃bb,(!(sumP ct==e.digest))=bb:=⟨_,rfl⟩
     have Hbb:=Qh hd
     have Hl:=Qh hl
     clear hl
     go_wp2_with fail
     refine Xaj (X:=Nat) (cbL ct ct.length w.heap.size e.size (sumP ct) e.digest bb) (RgF wR 7 225 226 227 (fun x w=>w.cell? ⟨x,0,none⟩=some (S ct)∧x<w.heap.size) (fun _ _=>True) (fun _ _=>True) (fun _ _=>True)) (by kernel_rfl) (by kernel_rfl) ?_ ?_ ?_
     ·exact ⟨0,RgF.start _ _⟩
     ·rintro x s' a' w' i hsz hcl ha hC hi
      obtain ⟨hun,oi,hoi,hall⟩:=mem_ready.1 hi
      have ev:=Xgk Xd9 ha
      rcases i with _|_|_|_|_|_|_|_|_|_|_|_|_|i
      rotate_left 13
      ·simp at hoi
      all_goals
       have hoj:=hoi
       simp at hoi
       subst hoi
       simp [Region.binds] at hall
       have hbw:=hC.off
       have c4:=Xaa hbw c4
       have c5:=Xaa hbw c5
       refine wpOp_step hoj (fun K' hK=> ?_)
       first|rw [if_pos (by rfl)]|rw [if_pos (by unfold Region.wanted;dsimp only;rw [Xa0 (j:=5) (t:=27) (b:=false) (by rfl) (by simp [ev,evF,hall])];rfl)]
      rotate_left 7
      ·unfold Oper.wp
       simp [go_sem,ev,evF,hall,Oper.upon,c4,c5,j1,hd]
       have ha:=ha.trans (Xfk (L:=cbL ct ct.length w.heap.size e.size (sumP ct) e.digest bb x) (M:=cbL ct ct.length w.heap.size e.size (sumP ct) e.digest bb w'.heap.size) [7] rfl (fun j hne=>by
        rcases j with _|_|_|_|_|_|_|_|_|_|_|_|_|j<;>first|rfl|(exact absurd (by decide) hne)|simp) (List.forall_mem_cons.2 ⟨Xco hun,List.forall_mem_nil _⟩))
       exact hK _ _ ⟨w'.heap.size,Xam Xd9 ha rfl hun,hC.step (hbw.trans (((Qb _ _).alloc (Qn _) _).mono hbw.size)) (fun _=>⟨by rw [World.cell?_alloc_new];rfl,by simp⟩) (fun _=>trivial) (fun _=>trivial) (fun _=>trivial)⟩
      ·have hcl1:=hC.f1 (by first|simpa using hall|simp [hall])
       unfold Oper.wp
       simp [go_sem,ev,evF,hall,Oper.upon]
       refine (Hsum.out x w' hcl1.1).mono ?_
       rintro r4 w4 ⟨rfl,hb4⟩
       exact hK _ _ ⟨x,Xam Xd9 ha rfl hun,hC.step (hbw.trans (hb4.mono hbw.size)) (fun q=>q.elim (fun e=>absurd e (by decide)) (fun ⟨_,q⟩=>⟨Xaa hb4 q.1,Nat.lt_of_lt_of_le q.2 hb4.size⟩)) (fun _=>trivial) (fun _=>trivial) (fun _=>trivial)⟩
      all_goals
       unfold Oper.wp
       first
       |(simp [go_sem,ev,evF,hall,Oper.upon,c4,c5,j1,hd];exact hK _ _ ⟨x,Xam Xd9 ha rfl hun,hC.pure (by decide)⟩)
       |(simp [go_sem,ev,evF,Oper.upon,c4,c5,j1,hd];exact hK _ _ ⟨x,Xam Xd9 ha rfl hun,hC.pure (by decide)⟩)
     ·rintro x s' a' w2 hup ha hC
      rw [Xbe _ _ _ _ (fun i hi=>by rw [Nat.zero_add];exact hup i (by simpa using hi))] at ha
      subst ha
      simp only [fillAll,Act.put,List.setIfInBounds_toArray,List.set_cons_succ,List.set_cons_zero]
      have Hb2:=Qh (hb1'.trans (hC.off.mono hb1'.size))
      clear hd hb1'
      cases bb with
      |true=>
       have hne:sumP ct≠e.digest:=by simpa using Hbb.out
       have Hn:=Qh (show N=([],5) by rw [←HN.out];unfold conQ;rw [if_neg (by simp),if_pos (.inr hne)])
       clear hne
       go_wp2
       go_ret2
       rw [Hn.out]
       exact ⟨rfl,Hb2.out⟩
      |false=>
       have hne:sumP ct=e.digest:=by simpa using Hbb.out
       have Hn:=Qh (show N=(ct,0) by rw [←HN.out];unfold conQ;rw [if_neg (by simp),if_neg (by intro q;rcases q with q|q;exact q Hl.out;exact q hne)])
       clear hne
       go_wp2
       go_ret2
       rw [Hn.out]
       exact ⟨rfl,Hb2.out⟩
    ·have j1:((ct.length:Int) != e.size)=true:=by simpa using hl
     have Hn:=Qh (show N=([],5) by rw [←HN.out];unfold conQ;rw [if_neg (by simp),if_pos (.inl hl)])
     clear hl
     have g4:=cell_regrown c4
     go_wp2_with fail
     refine wp_region_quiet_below (by kernel_rfl) (by kernel_rfl) ?_
     repeat (first|go_big_quiet_step (fail)|refine BigFrame.wpQuiet_skip (by rfl) ?_)
     refine wpQuiet_nil ?_
     intro w2 hwq
     have hb2:Below wR.heap.size wR w2:=by
      obtain ⟨pq,rfl⟩:=hwq
      exact below_regrown _ _ _
     clear hwq
     go_wp2
     go_ret2
     rw [Hn.out]
     exact ⟨rfl,hb1'.trans (hb2.mono hb1'.size)⟩
   ·have j1:(er != 0)=true:=by simpa using he
    have Hn:=Qh (show N=([],er) by rw [←HN.out];unfold conQ;rw [if_pos he])
    clear he
    go_wp2
    go_ret2
    rw [Hn.out]
    exact ⟨rfl,hb1'⟩
 ·rw [Xpd hk]
  have k0:(e.kind != 1)=true:=by simpa using hk
  clear hk
  go_enter Tryz.func15,Tryz.ntmps15
  go_wp2
  go_ret2
  exact ⟨rfl,hb0⟩
end Go.Proofs.YtdodihnehppnmaaGreatDoor
