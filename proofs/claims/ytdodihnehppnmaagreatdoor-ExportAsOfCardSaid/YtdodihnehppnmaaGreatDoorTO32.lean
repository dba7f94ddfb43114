/-
  Walks and laws that the claim's theorem uses: texts AfA AfC ItA ItB, joined; comments out. Conditions: as each theorem says.
-/
import Derived.Test.YtdodihnehppnmaaGreatDoorTO31
import Derived.RangeFuncNested
import Derived.RangeFuncLeaves
import Derived.Shelf.Abstract
import Derived.OwnWalkIn
import Derived.TacticsInMore
import Derived.LoopNIn
import Derived.LoopIn
set_option linter.all false
namespace Go.Proofs.YtdodihnehppnmaaGreatDoor
open Go.RowKit
def RetSt (I:IH) (w:World) (s:Stt) (e:Ending) (w':World):Prop:=
 ∃vt vh I',e= .returned (sttV vt vh)∧Below w.heap.size w w'∧Ext w.heap.size I I'∧Ok I' w'∧RdS tEnt I' vt s.tree∧RdS tHo I' vh s.holds
structure ResB (T:TypeId) (n:Nat) (J:IH) (W:World):Prop where
 row:W.heap[n]? =some (.cells #[.slice none 0 0,.slice none 0 0] T (0,0))
 free:J n=none
section
variable {T:TypeId} {n:Nat} {I J:IH} {W W':World}
theorem ResB.lt (h:ResB T n J W):n<W.heap.size:=(Array.getElem?_eq_some_iff.1 h.row).1
theorem ResB.below (h:ResB T n J W) (hb:Below W.heap.size W W'):ResB T n J W':=⟨(hb.block _ h.lt).trans h.row,h.free⟩
theorem ResB.past (h:ResB T n J W) (o:Obj):ResB T n J (W.alloc o):=h.below ((Qb _ _).alloc (Qn _) o)
theorem ResB.ext (h:ResB T n J W) (hb:Below W.heap.size W W') (hx:Ext W.heap.size J I):ResB T n I W':=⟨(hb.block _ h.lt).trans h.row,(hx _ h.lt).trans h.free⟩
theorem ResB.set2 {m:Nat} {u v:Value} (h:ResB T n J W) (hm:n≠m):ResB T n J ((W.setCell ⟨m,0,none⟩ u).setCell ⟨m,1,none⟩ v):=
 ⟨(Below.heap_setCell _ _ _ _ hm).trans ((Below.heap_setCell _ _ _ _ hm).trans h.row),h.free⟩
end
set_option maxRecDepth 100000 in
set_option maxHeartbeats 4000000 in
theorem Xm3 (I:IH) (v:Value) (l:List Ses) (hv:RdS tSes I v l) (hg:∀x∈l,SesG x) (hn:l.length≤1000) (n:Nat) (hnl:n≤l.length) (w:World) (hw:Ok I w):
 Calls Tryz.prog 98 #[v,.int .i64 n] w (RetSt I w (aftS nilS (l.take n))):=by
 obtain ⟨ao,cap,rfl,hcap,hcm,_⟩:=id hv
 have hi0:(0:Int)≤(n:Int):=by omega
 have hi1:(n:Int)≤(l.length:Int):=by omega
 have hi2:(n:Int)≤(cap:Int):=by omega
 have Hv:=Qh (hv.takeS hnl)
 have hll:(l.take n).length=n:=by simp;omega
 have Hg:=Qh (fun x (hx:x∈l.take n)=>hg x (List.mem_of_mem_take hx))
 generalize hL:l.take n=L at Hv hll Hg ⊢
 have Hll:=Qh hll
 clear hv hg hL hll
 have H0:=Qh (StM.new (T:=136) (hw.alloc (.cells #[.slice none 0 0,.slice none 0 0] 136)) rfl)
 have HR0:=Qh (show ResB 136 w.heap.size I (w.alloc (.cells #[.slice none 0 0,.slice none 0 0] 136)) from ⟨heap_alloc_new w _,hw.fresh (Qn _)⟩)
 have hbA:Below w.heap.size w (w.alloc (.cells #[.slice none 0 0,.slice none 0 0] 136)):=(Qb _ _).alloc (Qn _) _
 go_enter Tryz.func98,Tryz.ntmps98
 go_wp2_with fail
 rw [World.size_alloc] at H0
 go_loopw [15] (fun s15 wr=> ∃(k:Nat) (vt vh:Value) (J:IH),k≤n∧s15= .int .i64 k∧StM 136 (w.heap.size+1) J wr (aftS nilS (L.take k)) vt vh∧ResB 136 w.heap.size J wr∧Ext w.heap.size I J∧Below w.heap.size w wr) (fun i _=>n-(intOf i).toNat)
 case atStart=>exact ⟨0,_,_,I,Nat.zero_le _,rfl,H0.out,HR0.out.past _,Ext.refl _ _,hbA.alloc hbA.size _⟩
 case round=>
  clear H0 HR0 hbA
  obtain ⟨k,vt,vh,J,hk,rfl,hst,hrs,hx,hb⟩:=hrel
  have Hst:=Qh hst
  have HRs:=Qh hrs
  have Hx:=Qh hx
  have hokr:Ok J wr:=hst.ok
  have hltr:=hst.lt
  have HvJ:=Qh (Hv.out.mono (hx.keep hw (Qn _)))
  clear hst hrs hx
  by_cases hlt:k<n
  ·obtain ⟨x,ve,b,off,cap',hlx,hvv,⟨c0,c1,c2,c3,c4,c5⟩,h1⟩:=Xgs HvJ.out hokr k (by rw [Hll.out];exact hlt)
   cases hvv
   obtain ⟨oe,ce,rfl,_,_,_⟩:=id h1
   have Hxg:=Qh (Hg.out x (by rw [←hlx];exact List.getElem_mem hlt))
   have Hve:=Qh h1
   have hsn0:SIn (0+30*(L.take k).length) (aftS nilS (L.take k)):=Xn4 (L.take k) Xju fun y hy=>Hg.out y (List.mem_of_mem_take hy)
   have hsn1:SIn (30*k) (aftS nilS (L.take k)):=hsn0.mono (by rw [List.length_take];omega)
   have Hsn:=Qh hsn1
   have Hat:=Qh (Xve (s:=nilS) hlt hlx)
   generalize aftS nilS (L.take k)=s0 at Hst Hsn Hat
   have HB1:=Qh (sesB (W:=wr) (s:=x) (ve:= .slice oe x.ents.length ce) (t:=35) rfl (Qb _ _))
   have Hst1:=Qh (Hst.out.past (.cells #[.int .i64 x.num,.int .i64 x.date,S x.prev,.slice oe x.ents.length ce,S x.stream,S x.sl] 35))
   have HR1:=Qh (HRs.out.past (.cells #[.int .i64 x.num,.int .i64 x.date,S x.prev,.slice oe x.ents.length ce,S x.stream,S x.sl] 35))
   have hb1:=hb.alloc hb.size (.cells #[.int .i64 x.num,.int .i64 x.date,S x.prev,.slice oe x.ents.length ce,S x.stream,S x.sl] 35)
   have hlt1:wr.heap.size<(wr.alloc (.cells #[.int .i64 x.num,.int .i64 x.date,S x.prev,.slice oe x.ents.length ce,S x.stream,S x.sl] 35)).heap.size:=by simp
   clear hlx h1 hsn0 hsn1 Hst HRs hokr
   go_wp2_with fail
   clear c0 c1 c2 c3 c4 c5
   generalize wr.heap.size=bx at HB1 hlt1 hltr ⊢
   go_loopw [22] (fun s22 wq=> ∃(j:Nat) (vt' vh':Value) (J':IH),j≤x.ents.length∧s22= .int .i64 j∧StM 136 (w.heap.size+1) J' wq (runS s0 x.date (x.ents.take j)) vt' vh'∧ResB 136 w.heap.size J' wq∧Ext w.heap.size I J'∧SesB wq bx x (.slice oe x.ents.length ce)∧(∀b c,J b=some c→J' b=some c)∧bx<wq.heap.size∧Below w.heap.size w wq) (fun i _=>x.ents.length-(intOf i).toNat)
   case atStart=>exact ⟨0,vt,vh,J,Nat.zero_le _,rfl,Hst1.out,HR1.out,Hx.out,HB1.out,fun _ _ h=>h,hlt1,hb1⟩
   case round=>
    clear Hst1 HB1 hb1 hlt1 HR1
    obtain ⟨j,vt',vh',J',hj,rfl,hst,hrs,hx,hB,hkp,hltq,hbq⟩:=hrel
    have Hst:=Qh hst
    have HRs:=Qh hrs
    have HB:=Qh hB
    have Hx':=Qh hx
    have Hkp:=Qh hkp
    have hok:Ok J' wr:=hst.ok
    clear hst hB hx hkp hrs
    obtain ⟨c0,c1,c2,c3,c4,c5⟩:=HB.out
    by_cases hjt:j<x.ents.length
    ·obtain ⟨y,vya,vyx,b9,off9,cap9,hly,hvv,⟨x0,x1,x2,x3,x4,x5,x6⟩,h1,h2⟩:=Xbu (Hve.out.mono Hkp.out) hok j hjt
     cases hvv
     obtain ⟨xa,xc,rfl,_,_,_⟩:=id h1
     obtain ⟨xx,xd,rfl,_,_,_⟩:=id h2
     obtain ⟨t1,tc1,rfl,_,_,_⟩:=id Hst.out.tree
     obtain ⟨u1,uc1,rfl,_,_,_⟩:=id Hst.out.holds
     have hmem:y∈x.ents:=by rw [←hly];exact List.getElem_mem hjt
     have hsj:SIn (30*k+(x.ents.take j).length) (runS s0 x.date (x.ents.take j)):=Xmw (x.ents.take j) Hsn.out x.date fun e he=>⟨Hxg.out.path e (List.mem_of_mem_take he),Hxg.out.target e (List.mem_of_mem_take he)⟩
     have hn30:=Hxg.out.nents
     have hsk:SIn (30*k+30) (runS s0 x.date (x.ents.take j)):=hsj.mono (by rw [List.length_take];omega)
     have Hrt:=Qh (Xtt (s:=s0) (d:=x.date) hjt hly)
     have hpy:=Hxg.out.path y hmem
     have hty:=Hxg.out.target y hmem
     have hxl:=Hxg.out.exts y hmem
     have htl:=hsk.ok.tlen
     have hhl:=hsk.ok.hlen
     generalize runS s0 x.date (x.ents.take j)=s' at Hst hsk Hrt htl hhl
     have Hst':=Qh (Hst.out.past (.cells #[.int .i64 y.kind,S y.path,.slice xa y.attrs.length xc,S y.target,.int .i64 y.size,S y.digest,.slice xx y.exts.length xd] 26))
     have Hap:=Qh (Xfx J' s' _ _ Hst.out.tree Hst.out.holds hsk.sml (by omega) hsk.ok.holds (by omega) y _ _ h1 h2 (Hxg.out.wf y hmem) (by omega) (by omega) x.date (wr.alloc (.cells #[.int .i64 y.kind,S y.path,.slice xa y.attrs.length xc,S y.target,.int .i64 y.size,S y.digest,.slice xx y.exts.length xd] 26)) (hok.alloc _))
     obtain ⟨s2,er3,hs2⟩:∃s2 er3,stpP s' y x.date=(s2,er3):=⟨_,_,rfl⟩
     rw [hs2] at Hap Hrt
     have k0:=Hst'.out.c0
     have k1:=Hst'.out.c1
     have p1:=Xab (.cells #[.int .i64 y.kind,S y.path,.slice xa y.attrs.length xc,S y.target,.int .i64 y.size,S y.digest,.slice xx y.exts.length xd] 26) c1
     have hner:bx≠w.heap.size+1:=by omega
     have hbq':=hbq.alloc hbq.size (.cells #[.int .i64 y.kind,S y.path,.slice xa y.attrs.length xc,S y.target,.int .i64 y.size,S y.digest,.slice xx y.exts.length xd] 26)
     have HBp:=Qh (HB.out.past (.cells #[.int .i64 y.kind,S y.path,.slice xa y.attrs.length xc,S y.target,.int .i64 y.size,S y.digest,.slice xx y.exts.length xd] 26))
     have HRp:=Qh (HRs.out.past (.cells #[.int .i64 y.kind,S y.path,.slice xa y.attrs.length xc,S y.target,.int .i64 y.size,S y.digest,.slice xx y.exts.length xd] 26))
     clear hly h1 h2 hmem htl hhl hs2 Hst HB hok hbq hsj hsk HRs
     go_wp2_with fail
     refine Hap.out.mono ?_
     rintro e3 w3 ⟨v3,v4,J3,rfl,hb3,hx3,hok3,ht3,hh3⟩
     obtain ⟨a3,d3,rfl,_,_,_⟩:=id ht3
     obtain ⟨a4,d4,rfl,_,_,_⟩:=id hh3
     have HB3:=Qh (HBp.out.thru hb3)
     have Hst3:=Qh (Hst'.out.ext hb3 hx3 hok3)
     have HR3:=Qh (HRp.out.ext hb3 hx3)
     have hbq3:=hbq'.trans (hb3.mono hbq'.size)
     have Hkp3:=Qh (hx3.keep Hst'.out.ok (Qn _))
     have hlt3:wr.heap.size<w3.heap.size:=by have:=hb3.size;simp at this;omega
     have Hx3:=Qh (Hx'.out.trans hx3 (by have:=hbq'.size;omega))
     have Hst4:=Qh (Hst3.out.set (s':=s2) ht3 hh3)
     clear c0 c1 c2 c3 c4 c5 x0 x1 x2 x3 x4 x5 x6 k0 k1 p1 hb3 hx3 hok3 ht3 hh3 Hap Hst' HBp HRp
     have r0:=Hst3.out.c0
     have r1:=Hst3.out.c1
     have f0:=Hst3.out.f0
     have f1:=Hst3.out.f1
     have hbs:Below w.heap.size w ((w3.setCell ⟨w.heap.size+1,0,none⟩ (.slice a3 s2.tree.length d3)).setCell ⟨w.heap.size+1,1,none⟩ (.slice a4 s2.holds.length d4)):=(hbq3.setCell (by simp) _).setCell (by simp) _
     have HB4:=Qh (HB3.out.set2 (u:=(.slice a3 s2.tree.length d3)) (v:=(.slice a4 s2.holds.length d4)) hner)
     have HR4:=Qh (HR3.out.set2 (u:=(.slice a3 s2.tree.length d3)) (v:=(.slice a4 s2.holds.length d4)) (show w.heap.size≠w.heap.size+1 by omega))
     clear HB3 hbq' HR3
     go_wp2
     go_roundw
     case rel=>exact ⟨j+1,_,_,J3,by omega,by go_num,by rw [Hrt.out];exact Hst4.out,HR4.out,Hx3.out,HB4.out,fun b c h=>Hkp3.out b c (Hkp.out b c h),by simp;omega,hbs⟩
     case measure=>simp [intOf];omega
    ·have Hall:=Qh (show aftS nilS (L.take (k+1))=runS s0 x.date (x.ents.take j) by rw [Hat.out,List.take_of_length_le (by omega)])
     clear c0 c1 c2 c3 c4 c5
     go_wp2
     go_roundw
     case rel=>exact ⟨k+1,_,_,J',by omega,by go_num,by rw [Hall.out];exact Hst.out,HRs.out,Hx'.out,hbq⟩
     case measure=>simp [intOf];omega
  ·have Hall:=Qh (show aftS nilS L=aftS nilS (L.take k) by rw [List.take_of_length_le (by rw [Hll.out];omega)])
   have hi2:(Tryz.prog.info? 136).map (·.size)=some 2:=by kernel_rfl
   have Hi2:=Qh hi2
   obtain ⟨t1,tc1,rfl,_,_,_⟩:=id Hst.out.tree
   obtain ⟨u1,uc1,rfl,_,_,_⟩:=id Hst.out.holds
   have r0:=Hst.out.c0
   have r1:=Hst.out.c1
   have q0:wr.cell? ⟨w.heap.size,0,none⟩=some (.slice none 0 0):=(cell_of_row wr _ 0 _ _ _ HRs.out.row).trans rfl
   have q1:wr.cell? ⟨w.heap.size,1,none⟩=some (.slice none 0 0):=(cell_of_row wr _ 1 _ _ _ HRs.out.row).trans rfl
   have f0:=frozen_of_row wr _ 0 _ _ HRs.out.row
   have f1:=frozen_of_row wr _ 1 _ _ HRs.out.row
   clear hi2
   go_wp2
   have hW:=heap_setCell_same _ w.heap.size 1 _ _ (.slice u1 (aftS nilS (L.take k)).holds.length uc1) (heap_setCell_same wr w.heap.size 0 _ _ (.slice t1 (aftS nilS (L.take k)).tree.length tc1) HRs.out.row)
   refine bodyPost_ret (results_cell_row rfl _ _ w.heap.size _ #[.slice t1 (aftS nilS (L.take k)).tree.length tc1,.slice u1 (aftS nilS (L.take k)).holds.length uc1] (0,0) _ rfl hW Tryz.underlying136 rfl Hi2.out) rfl ?_
   rw [Hall.out]
   exact ⟨_,_,J,rfl,(hb.setCell (Qn _) _).setCell (Qn _) _,Hx.out,(hokr.setCell HRs.out.free _).setCell HRs.out.free _,Hst.out.tree,Hst.out.holds⟩
def treeR (l:List Ses) (n:Int):List Ent × Int:=if n<0∨(l.length:Int)<n then ([],2) else ((aftS nilS (l.take n.toNat)).tree,0)
def holdsR (l:List Ses) (n:Int):List Ho:=if n<0∨(l.length:Int)<n then [] else (aftS nilS (l.take n.toNat)).holds
set_option maxRecDepth 100000 in
set_option maxHeartbeats 1000000 in
theorem Xps (I:IH) (v:Value) (l:List Ses) (hv:RdS tSes I v l) (hg:∀x∈l,SesG x) (hn:l.length≤1000) (n:Int) (w:World) (hw:Ok I w):
 Calls Tryz.prog 45 #[v,.int .i64 n] w (RetL tEnt I w (treeR l n).1 (treeR l n).2):=by
 obtain ⟨ao,cap,rfl,_,_,_⟩:=id hv
 have Ha:=Qh (fun m hm w hw=>Xm3 I _ l hv hg hn m hm w hw)
 clear hv hg
 by_cases h1:n<0
 ·have Hn:=Qh (show treeR l n=([],2) by rw [treeR,if_pos (.inl h1)])
  have d1:decide (n<0)=true:=Qt h1
  clear h1
  go_enter Tryz.func45,Tryz.ntmps45
  go_wp2
  go_ret2
  rw [Hn.out]
  exact ⟨_,I,rfl,Qb _ _,Ext.refl _ _,hw,RdS.nil _ _⟩
 have d1:decide (n<0)=false:=Qf h1
 by_cases h2:(l.length:Int)<n
 ·have Hn:=Qh (show treeR l n=([],2) by rw [treeR,if_pos (.inr h2)])
  have d2:decide ((l.length:Int)<n)=true:=Qt h2
  clear h1 h2
  go_enter Tryz.func45,Tryz.ntmps45
  go_wp2
  go_ret2
  rw [Hn.out]
  exact ⟨_,I,rfl,Qb _ _,Ext.refl _ _,hw,RdS.nil _ _⟩
 have d2:decide ((l.length:Int)<n)=false:=Qf h2
 obtain ⟨m,rfl⟩:∃m:Nat,n=(m:Int):=⟨n.toNat,by omega⟩
 have Hn:=Qh (show treeR l (m:Int)=((aftS nilS (l.take m)).tree,0) by rw [treeR,if_neg (by omega)];rfl)
 have hml:m≤l.length:=by omega
 have hfd:∀(a b:Value) (w:World),(Instr.field 136 (.agg #[a,b]) 0).run Tryz.prog w= .ok a w:=fun _ _ _=>by kernel_rfl
 clear h1 h2
 go_enter Tryz.func45,Tryz.ntmps45
 go_wp2_with fail
 refine (Ha.out m hml w hw).mono ?_
 rintro e1 w1 ⟨vt,vh,J,rfl,hb,hx,hok,ht,hh⟩
 have Ht:=Qh ht
 clear ht hh
 go_wp2
 go_ret2
 rw [Hn.out]
 exact ⟨_,J,rfl,hb,hx,hok,Ht.out⟩
abbrev verCs (x:Ver) (va vx:Value):List Value:= [.int .i64 x.s,.int .i64 x.d,.int .i64 x.e.kind,S x.e.path,va,S x.e.target,.int .i64 x.e.size,S x.e.digest,vx]
def tVer:Ty Ver where
 size:=9
 rd:=fun I cs x=> ∃va vx,cs=verCs x va vx∧RdS tAt I va x.e.attrs∧RdS tXt I vx x.e.exts
 len:=fun ⟨_,_,h,_⟩=>by rw [h];rfl
 one:=fun ⟨va,vx,h,h1,h2⟩ u hu=>by
  rw [h] at hu
  simp at hu
  rcases hu with rfl|rfl|rfl|rfl|rfl|rfl|rfl|rfl|rfl<;>first|rfl|exact h1.one|exact h2.one
 mono:=fun hI ⟨va,vx,h,h1,h2⟩=>⟨va,vx,h,h1.mono hI,h2.mono hI⟩
section
variable {B nS:Nat} {J J':IH} {W W':World} {vo vo':Value} {out out':List Ver}
end
theorem Xkf {W:World} {k:Nat} {c:Array Value} {e:TypeId} {f:Nat × Nat} {row:Option Nat} (hk:W.heap[k]? =some (.cells c e f)) (hr:∀r,row=some r→ ∃o:Obj,W.heap[r]? =some o∧o.isCells=false):row≠some k:=by
 intro e'
 obtain ⟨o,ho,hc⟩:=hr k e'
 rw [hk] at ho
 cases ho
 cases hc
theorem Ok.turn {I:IH} {W W':World} {row:Option Nat} (h:Ok I W) (hg:W.grownBy W' row) (hr:∀r,row=some r→ ∃o:Obj,W.heap[r]? =some o∧o.isCells=false):Ok I W':=fun b c hb=>by
 obtain ⟨e,f,hh⟩:=h b c hb
 exact ⟨e,f,(hg.block b (Array.getElem?_eq_some_iff.1 hh).1 (fun e'=>Xkf hh hr e'.symm)).trans hh⟩
theorem StM.turn {T:TypeId} {n:Nat} {J:IH} {W W':World} {s:Stt} {vt vh:Value} {row:Option Nat} (h:StM T n J W s vt vh) (hg:W.grownBy W' row) (hr:∀r,row=some r→ ∃o:Obj,W.heap[r]? =some o∧o.isCells=false):StM T n J W' s vt vh:=
 ⟨(hg.block n h.lt (fun e'=>Xkf h.row hr e'.symm)).trans h.row,h.tree,h.holds,h.ok.turn hg hr,h.free⟩
theorem Below.turn {n:Nat} {w W W':World} {row:Option Nat} {B:Nat} (h:Below n w W) (hn:n≤w.heap.size) (hB:n≤B) (hg:W.grownBy W' row) (hr:∀r,row=some r→B≤r∧ ∃o:Obj,W.heap[r]? =some o∧o.isCells=false):Below n w W':=
 h.grown hg (Nat.le_trans hn h.size) (fun k e=>Nat.le_trans hB (hr k e).1)
structure KpS (n₀:Nat) (T:TypeId) (W W':World):Prop where
 below:Below n₀ W W'
 ses:∀(k:Nat) (c:Array Value) (f:Nat × Nat),W.heap[k]? =some (.cells c T f)→W'.heap[k]? =some (.cells c T f)
section
variable {n₀:Nat} {T:TypeId} {W W' W'':World}
theorem KpS.refl (W:World):KpS n₀ T W W:=⟨Qb _ _,fun _ _ _ h=>h⟩
theorem KpS.trans (h:KpS n₀ T W W') (k:KpS n₀ T W' W''):KpS n₀ T W W'':=⟨h.below.trans k.below,fun i c f hi=>k.ses i c f (h.ses i c f hi)⟩
theorem KpS.of_below (hb:Below W.heap.size W W') (hn:n₀≤W.heap.size):KpS n₀ T W W':=
 ⟨hb.mono hn,fun k _ _ h=>(hb.block k (Array.getElem?_eq_some_iff.1 h).1).trans h⟩
theorem KpS.alloc (hn:n₀≤W.heap.size) (o:Obj):KpS n₀ T W (W.alloc o):=KpS.of_below ((Qb _ _).alloc (Qn _) o) hn
theorem KpS.setCell {n:Nat} {c:Array Value} {T':TypeId} {f:Nat × Nat} (hrow:W.heap[n]? =some (.cells c T' f)) (hT:T'≠T) (hn:n₀≤n) (j:Nat) (u:Value):KpS n₀ T W (W.setCell ⟨n,j,none⟩ u):=
 ⟨(Qb n₀ W).setCell (p:=⟨n,j,none⟩) hn u,fun k c' f' h=>(Below.heap_setCell W ⟨n,j,none⟩ u k (fun e=>by
   have e':k=n:=by first|exact e|exact e.symm
   subst e'
   rw [hrow] at h
   cases h
   exact hT rfl)).trans h⟩
theorem KpS.put {w:World} (hn:n₀≤w.heap.size) (W:World) (l:Nat) (o o':Obj) (hl:w.heap.size≤l) (h:W.heap[l]? =some o) (hc:o.isCells=false) (hw:o.isWalk=false):KpS n₀ T W (W.putObj l o'):=
 ⟨belowK_b hn W l o o' hl h hc hw,fun k c f hk=>by
   have hne:k≠l:=by
    intro e
    subst e
    rw [h] at hk
    cases hk
    cases hc
   exact (World.putObj_heap_other hne).trans hk⟩
end
theorem KeepsFrom.of_below {B:Nat} {W W':World} (hb:Below W.heap.size W W'):KeepsFrom B W W':=⟨hb.size,fun k _ _ h _=>(hb.block k (Array.getElem?_eq_some_iff.1 h).1).trans h⟩
theorem KeepsFrom.setCellK {B:Nat} (W:World) (p:Addr) (u:Value):KeepsFrom B W (W.setCell p u):=(KeepsOthers.setCell W p u).from B
structure YP where
 s:Ses
 e:Ent
 ve:Value
 va:Value
 vx:Value
structure YP.In (I:IH) (L:List Ses) (y:YP):Prop where
 ses:y.s∈L
 g:SesG y.s
 mem:y.e∈y.s.ents
 ve:RdS tEnt I y.ve y.s.ents
 va:RdS tAt I y.va y.e.attrs
 vx:RdS tXt I y.vx y.e.exts
abbrev YS (I:IH) (L:List Ses):= { y:YP // y.In I L }
def YS.key {I:IH} {L:List Ses} (y:YS I L):Ses × Ent:=(y.1.s,y.1.e)
def YS.enc {I:IH} {L:List Ses} (y:YS I L):Array Value:= #[sesV y.1.s y.1.ve,entV y.1.e y.1.va y.1.vx]
def keys {I:IH} {L:List Ses} (l:List (YS I L)):List (Ses × Ent):=l.map YS.key
theorem Xlj {I:IH} {L:List Ses} (l:List (YS I L)) (y:YS I L):keys (l++ [y])=keys l++ [(y.1.s,y.1.e)]:=by simp [keys,YS.key]
theorem Xos {I:IH} {L:List Ses} (l:List (YS I L)):(keys l).length=l.length:=by simp [keys]
theorem Xv4 {I:IH} {L:List Ses} (l:List (YS I L)):∀q∈keys l,q.2.path.length≤300∧q.2.target.length≤300:=fun q hq=>by
 obtain ⟨y,_,rfl⟩:=List.mem_map.1 hq
 exact ⟨y.2.g.path _ y.2.mem,y.2.g.target _ y.2.mem⟩
theorem Xp3 {l:List Ses} {k:Nat} (hk:k<l.length) {x:Ses} (hx:l[k]=x):pairs (l.take (k+1))=pairs (l.take k)++x.ents.map fun e=>(x,e):=by
 rw [List.take_succ_eq_append_getElem hk,hx]
 simp [pairs]
theorem Xt9 {x:Ses} {k:Nat} (hk:k<x.ents.length) {e:Ent} (he:x.ents[k]=e):(x.ents.take (k+1)).map (fun e=>(x,e))=(x.ents.take k).map (fun e=>(x,e))++ [(x,e)]:=by
 rw [List.take_succ_eq_append_getElem hk,he]
 simp
theorem Xvf {I:IH} {L:List Ses} (l:List (YS I L)):SIn l.length ((keys l).foldl stq nilS):=by
 have:=Xo2 (keys l) Xju (Xv4 l)
 rw [Xos,Nat.zero_add] at this
 exact this
end Go.Proofs.YtdodihnehppnmaaGreatDoor
namespace Go.Proofs.YtdodihnehppnmaaGreatDoor
open Go.RowKit Go.Shelf
attribute [local go_sem] Oper.semAt_some
abbrev sesRow (s:Ses) (ve:Value):Array Value:= #[.int .i64 s.num,.int .i64 s.date,S s.prev,ve,S s.stream,S s.sl]
theorem sesB_row {W:World} {b:Nat} {s:Ses} {ve:Value} {t:TypeId} (h:W.heap[b]? =some (.cells (sesRow s ve) t (0,0))):SesB W b s ve:=
 ⟨(cell_of_row W _ 0 _ _ _ h).trans rfl,(cell_of_row W _ 1 _ _ _ h).trans rfl,(cell_of_row W _ 2 _ _ _ h).trans rfl,(cell_of_row W _ 3 _ _ _ h).trans rfl,(cell_of_row W _ 4 _ _ _ h).trans rfl,(cell_of_row W _ 5 _ _ _ h).trans rfl⟩
theorem entB_row {W:World} {b:Nat} {e:Ent} {va vx:Value} {t:TypeId} (h:W.heap[b]? =some (.cells (entRow e va vx) t (0,0))):EntB W b e va vx:=
 ⟨(cell_of_row W _ 0 _ _ _ h).trans rfl,(cell_of_row W _ 1 _ _ _ h).trans rfl,(cell_of_row W _ 2 _ _ _ h).trans rfl,(cell_of_row W _ 3 _ _ _ h).trans rfl,(cell_of_row W _ 4 _ _ _ h).trans rfl,(cell_of_row W _ 5 _ _ _ h).trans rfl,(cell_of_row W _ 6 _ _ _ h).trans rfl⟩
set_option maxRecDepth 100000 in
set_option maxHeartbeats 4000000 in
theorem Xnm (n:Nat) (hn:1≤n) (I:IH) (v:Value) (L:List Ses) (hv:RdS tSes I v L) (hg:∀x∈L,SesG x) (hL:L.length≤1000) (l Bs n₀:Nat) (J Jx:List (YS I L)→World→Prop)
 (W:World) (hJ:AbidesFrom W.heap.size J)
 (hY:∀pre x W',J pre W'→pre.length<30000→YieldAt Fence.wide (n-1) Tryz.prog l x.enc W' fun e W''=>
   (e= .returned (.bool true)∧J (pre++ [x]) W''∧KpS n₀ 35 W' W'')∨(e= .returned (.bool false)∧Jx (pre++ [x]) W''))
 (hok:Ok I W) (hI:∀b c,I b=some c→b<n₀) (hsz:n₀≤W.heap.size) (hBs:W.cell? ⟨Bs,0,none⟩=some v) (h0:J [] W):
 CallsIn Fence.wide n Tryz.prog 173 #[.func (.yield l) #[] #[],.pointer (some ⟨Bs,0,none⟩)] W fun e W'=>(∃v,e= .returned v)∧
  ((∃ys,keys ys=pairs L∧J ys W')∨(∃pre,True∧Jx pre W')):=by
 obtain ⟨ao,cap,rfl,_,_,_⟩:=id hv
 have Hv:=Qh hv
 have Hg:=Qh hg
 have HJ:=Qh hJ
 have HY:=Qh hY
 have Hok:=Qh hok
 have HI:=Qh hI
 clear hv hg hJ hY hok hI
 refine callsIn_of_wp Tryz.func173 rfl trivial ?_ rfl
 simp only [Tryz.ntmps173,List.size_toArray,List.length_cons,List.length_nil,Nat.reduceAdd,Nat.reduceSub,Array.replicate_succ,Array.replicate_zero,List.push_toArray,List.append_toArray,List.nil_append,List.cons_append]
 gi_wp2
 gi_loopw [9] (fun s9 wr=> ∃(k:Nat) (pre:List (YS I L)),k≤L.length∧s9= .int .i64 k∧keys pre=pairs (L.take k)∧J pre wr∧KpS n₀ 35 W wr) (fun i _=>L.length-(intOf i).toNat)
 case atStart=>exact ⟨0,[],Nat.zero_le _,rfl,rfl,h0,KpS.refl _⟩
 case round=>
  obtain ⟨k,pre,hk,rfl,hkey,hj,hkp⟩:=hrel
  have Hkey:=Qh hkey
  have Hj:=Qh hj
  have Hkp:=Qh hkp
  have hokr:Ok I wr:=Hok.out.of_block fun b c hb=>hkp.below.block b (HI.out b c hb)
  have hszr:W.heap.size≤wr.heap.size:=hkp.below.size
  clear hkey hj hkp
  by_cases hlt:k<L.length
  ·obtain ⟨x,ve,b,off,cap',hlx,hvv,⟨c0,c1,c2,c3,c4,c5⟩,h1⟩:=Xgs Hv.out hokr k hlt
   cases hvv
   obtain ⟨oe,ce,rfl,_,_,_⟩:=id h1
   have Hxm:=Qh (show x∈L by rw [←hlx];exact List.getElem_mem hlt)
   have Hxg:=Qh (Hg.out x Hxm.out)
   have Hve:=Qh h1
   have Hpt:=Qh (Xp3 hlt hlx)
   have hn30:=Hxg.out.nents
   have Hpl:=Qh (Xk8 (l:=L.take k) fun y hy=>Hg.out y (List.mem_of_mem_take hy))
   have Hrow:=Qh (heap_alloc_new wr (.cells #[.int .i64 x.num,.int .i64 x.date,S x.prev,.slice oe x.ents.length ce,S x.stream,S x.sl] 35))
   have Hj1:=Qh (HJ.out _ _ _ none Hj.out (World.grownBy_alloc wr (.cells #[.int .i64 x.num,.int .i64 x.date,S x.prev,.slice oe x.ents.length ce,S x.stream,S x.sl] 35) none) (fun r h=>by cases h))
   have Hkp1:=Qh (Hkp.out.trans (KpS.alloc (by omega) (.cells #[.int .i64 x.num,.int .i64 x.date,S x.prev,.slice oe x.ents.length ce,S x.stream,S x.sl] 35)))
   have hlt1:wr.heap.size<(wr.alloc (.cells #[.int .i64 x.num,.int .i64 x.date,S x.prev,.slice oe x.ents.length ce,S x.stream,S x.sl] 35)).heap.size:=by simp
   clear hlx h1 Hj Hkp hokr
   gi_wp2
   clear c0 c1 c2 c3 c4 c5
   generalize wr.heap.size=bx at Hrow hlt1 hszr ⊢
   gi_loopw [16] (fun s16 wq=> ∃(j:Nat) (pre:List (YS I L)),j≤x.ents.length∧s16= .int .i64 j∧keys pre=pairs (L.take k)++(x.ents.take j).map (fun e=>(x,e))∧J pre wq∧KpS n₀ 35 W wq∧wq.heap[bx]? =some (.cells (sesRow x (.slice oe x.ents.length ce)) 35 (0,0))) (fun i _=>x.ents.length-(intOf i).toNat)
   case atStart=>exact ⟨0,pre,Nat.zero_le _,rfl,by rw [Hkey.out];simp,Hj1.out,Hkp1.out,Hrow.out⟩
   case round=>
    clear Hj1 Hkp1 Hrow Hkey hlt1
    obtain ⟨j,pre',hjl,rfl,hkey,hj,hkp,hrow⟩:=hrel
    have Hkey:=Qh hkey
    have Hj:=Qh hj
    have Hkp:=Qh hkp
    have Hrow:=Qh hrow
    have hokr:Ok I wr:=Hok.out.of_block fun b c hb=>hkp.below.block b (HI.out b c hb)
    have hszr':W.heap.size≤wr.heap.size:=hkp.below.size
    clear hkey hj hkp hrow
    by_cases hjt:j<x.ents.length
    ·obtain ⟨y,vya,vyx,b9,off9,cap9,hly,hvv,⟨x0,x1,x2,x3,x4,x5,x6⟩,h1,h2⟩:=Xbu Hve.out hokr j hjt
     cases hvv
     obtain ⟨xa,xc,rfl,_,_,_⟩:=id h1
     obtain ⟨xx,xd,rfl,_,_,_⟩:=id h2
     have Hmt:=Qh (Xt9 (x:=x) hjt hly)
     have hin:YP.In I L ⟨x,y,.slice (some ⟨b9,off9,none⟩) x.ents.length ce,.slice xa y.attrs.length xc,.slice xx y.exts.length xd⟩:=⟨Hxm.out,Hxg.out,by rw [←hly];exact List.getElem_mem hjt,Hve.out,h1,h2⟩
     have hpl:pre'.length<30000:=by
      have e1:=congrArg List.length Hkey.out
      rw [Xos,List.length_append,List.length_map,List.length_take] at e1
      have e2:=Hpl.out
      rw [List.length_take] at e2
      omega
     obtain ⟨fn,tmps,assign,body,hy,hR⟩:=HY.out pre' ⟨_,hin⟩ (wr.alloc (.cells #[.int .i64 y.kind,S y.path,.slice xa y.attrs.length xc,S y.target,.int .i64 y.size,S y.digest,.slice xx y.exts.length xd] 26)) (HJ.out _ _ _ none Hj.out (World.grownBy_alloc wr _ none) (fun r h=>by cases h)) hpl
     have Hks:=Qh (show keys (pre'++ [(⟨_,hin⟩:YS I L)])=pairs (L.take k)++(x.ents.take (j+1)).map (fun e=>(x,e)) by rw [Xlj,Hkey.out,Hmt.out,List.append_assoc])
     dsimp only [YS.enc,sesV,entV] at hy
     generalize (⟨_,hin⟩:YS I L)=ys at hR Hks
     have hrow1:(wr.alloc (.cells #[.int .i64 y.kind,S y.path,.slice xa y.attrs.length xc,S y.target,.int .i64 y.size,S y.digest,.slice xx y.exts.length xd] 26)).heap[bx]? =_:=(Below.heap_alloc wr _ bx (Array.getElem?_eq_some_iff.1 Hrow.out).1).trans Hrow.out
     have Hrow1:=Qh hrow1
     obtain ⟨c0,c1,c2,c3,c4,c5⟩:=sesB_row hrow1
     have Hkp1:=Qh (Hkp.out.trans (KpS.alloc (by omega) (.cells #[.int .i64 y.kind,S y.path,.slice xa y.attrs.length xc,S y.target,.int .i64 y.size,S y.digest,.slice xx y.exts.length xd] 26)))
     clear hly h1 h2 hrow1 hin hpl Hkey Hj Hkp hokr
     gi_wp2
     refine hR.mono ?_
     rintro e W3 (⟨rfl,hJ3,hk3⟩|⟨rfl,hJx3⟩)
     ·have HJ3:=Qh hJ3
      have Hk3:=Qh (Hkp1.out.trans hk3)
      have Hr3:=Qh (hk3.ses _ _ _ Hrow1.out)
      clear hJ3 hk3 hy c0 c1 c2 c3 c4 c5 x0 x1 x2 x3 x4 x5 x6
      gi_wp2
      go_roundw
      case rel=>exact ⟨j+1,_,by omega,by go_num,Hks.out,HJ3.out,Hk3.out,Hr3.out⟩
      case measure=>simp [intOf];omega
     ·gi_wp2
      refine bodyPost_ret (results_none rfl _ _ _) rfl ?_
      exact ⟨⟨_,rfl⟩,.inr ⟨_,trivial,hJx3⟩⟩
    ·have Hks:=Qh (show keys pre'=pairs (L.take (k+1)) by rw [Hkey.out,Hpt.out,List.take_of_length_le (show x.ents.length≤j by omega)])
     gi_wp2
     go_roundw
     case rel=>exact ⟨k+1,_,by omega,by go_num,Hks.out,Hj.out,Hkp.out⟩
     case measure=>simp [intOf];omega
  ·have Hks:=Qh (show keys pre=pairs L by rw [Hkey.out,List.take_of_length_le (show L.length≤k by omega)])
   gi_wp2
   go_end0
   exact ⟨⟨_,rfl⟩,.inl ⟨_,Hks.out,Hj.out⟩⟩
set_option maxRecDepth 100000 in
theorem Xp7 (v:Value) (w:World) (h1:∃ao n c,v= .slice ao n c):
 Calls Tryz.prog 113 #[v] w fun e w'=>e= .returned (.func (.func 173) #[] #[.pointer (some ⟨w.heap.size,0,none⟩)])∧w'=w.alloc (.cells #[v] 22):=by
 obtain ⟨ao,k,c,rfl⟩:=h1
 go_enter Tryz.func113,Tryz.ntmps113
 go_wp2
 go_ret
 exact ⟨rfl,rfl⟩
theorem Xuk (n:Nat) (hn:1≤n) (I:IH) (v:Value) (L:List Ses) (hv:RdS tSes I v L) (hg:∀x∈L,SesG x) (hL:L.length≤1000) (Bs n₀:Nat) (w:World) (hok:Ok I w) (hI:∀b c,I b=some c→b<n₀) (hsz:n₀≤w.heap.size) (hBs:w.cell? ⟨Bs,0,none⟩=some v):
 SeqStopsK Fence.wide n Tryz.prog 173 #[.pointer (some ⟨Bs,0,none⟩)] (fun x:YS I L=>x.enc) (KpS n₀ 35) (fun ys=>keys ys=pairs L) (fun _=>True) 30000 w:=fun l J Jx W hW hJ _ hY h0=>
 Xnm n hn I v L hv hg hL l Bs n₀ J Jx W hJ hY (hok.below (Qn _) hW) hI (Nat.le_trans hsz hW.size) (Xaa hW hBs) h0
end Go.Proofs.YtdodihnehppnmaaGreatDoor
