/-
  Walks and laws that the claim's theorem uses: texts EnE EnF EnG EnH, joined; comments out. Conditions: as each theorem says.
-/
import Derived.Test.YtdeknddamidldaaGreatDoorQ06
namespace Go.Proofs.YtdeknddamidldaaGreatDoor
open Go.RowKit
theorem below_setRow {B:Nat} {w w':World} {g:Nat} (h:Below B w w') (hg:B≤g) (cs:Array Value):Below B w (w'.setRow g cs):=
 ⟨h.os,h.tape,h.output,by simpa using h.size,fun k hk=>by rw [setRow_other _ _ _ _ (by omega)];exact h.block k hk⟩
def zeroE:Ent:=⟨0,[],[],[],0,[],[]⟩
def getE (t:List Ent) (p:Bytes):Ent × Bool:=match getT t p with|some x=>(x,true)|none=>(zeroE,false)
def RetG (I:IH) (w:World) (x:Ent × Bool) (e:Ending) (w':World):Prop:=
 ∃va vx,e= .returned (.tuple #[entV x.1 va vx,.bool x.2])∧RdS tAt I va x.1.attrs∧RdS tXt I vx x.1.exts∧Below w.heap.size w w'
abbrev entRow (x:Ent) (va vx:Value):Array Value:= #[.int .i64 x.kind,S x.path,va,S x.target,.int .i64 x.size,S x.digest,vx]
abbrev zeroRow:Array Value:= #[.int .i64 0,.string ⟨#[]⟩,.slice none 0 0,.string ⟨#[]⟩,.int .i64 0,.string ⟨#[]⟩,.slice none 0 0]
theorem Xi5 {x:Ent} {va vx:Value} {I:IH} (h1:RdS tAt I va x.attrs) (h2:RdS tXt I vx x.exts):(entRow x va vx).all (·.oneCell')=true:=by
 have e1:=h1.one
 have e2:=h2.one
 simp [entRow,e1,e2]
 exact ⟨rfl,rfl,rfl,rfl,rfl⟩
set_option maxRecDepth 100000 in
set_option maxHeartbeats 1000000 in
theorem Xbz (I:IH) (v:Value) (t:List Ent) (hv:RdS tEnt I v t) (p:Bytes) (w:World) (hw:Ok I w):
 Calls Tryz.prog 42 #[v,S p] w (RetG I w (getE t p)):=by
 have hlen:=hv.len_le
 obtain ⟨ao,cap,rfl,hcap,hcm,_⟩:=id hv
 have Hv:=Qh hv;clear hv
 have hi7:(Tryz.prog.info? 39).map (·.size)=some 7:=by kernel_rfl
 have Hz:=Qh (heap_alloc_new w (.cells zeroRow 39))
 go_enter Tryz.func42,Tryz.ntmps42
 go_wp2_with fail
 go_loopw [10] (fun s10 wr=> ∃k:Nat,k≤t.length∧s10= .int .i64 k∧getT t p=getT (t.drop k) p∧Below w.heap.size w wr∧w.heap.size<wr.heap.size∧wr.heap[w.heap.size]? =some (.cells zeroRow 39 (0,0))) (fun i _=>t.length-(intOf i).toNat)
 case atStart=>exact ⟨0,Nat.zero_le _,rfl,rfl,(Qb _ _).alloc (Qn _) _,by simp,Hz.out⟩
 case round=>
  clear Hz
  obtain ⟨k,hk,rfl,hr,hb,hsz,hz⟩:=hrel
  have Hr:=Qh hr
  have Hz:=Qh hz
  clear hr hz
  have hwr:Ok I wr:=hw.below (Qn _) hb
  by_cases hlt:k<t.length
  ·obtain ⟨x,va,vx,b,off,cap',hlx,hvv,⟨c0,c1,c2,c3,c4,c5,c6⟩,h1,h2⟩:=Xbt Hv.out hwr k hlt
   cases hvv
   have Hst:=Qh (show getT t p=if (x.path==p) then some x else getT (t.drop (k+1)) p by
    rw [Hr.out,List.drop_eq_getElem_cons hlt,hlx,getT,List.find?_cons];cases (x.path==p)<;>rfl)
   obtain ⟨aa,ca,rfl,_,_,_⟩:=id h1
   obtain ⟨ax,cx,rfl,_,_,_⟩:=id h2
   have H1:=Qh h1
   have H2:=Qh h2
   clear hlx h1 h2
   cases he:(x.path==p)
   ·have Hn:=Qh (show getT t p=getT (t.drop (k+1)) p by rw [Hst.out,he];rfl)
    go_wp2
    go_roundw
    case rel=>exact ⟨k+1,by omega,by go_num,Hn.out,hb.alloc hb.size _,by simp;omega,(Below.heap_alloc wr _ _ hsz).trans Hz.out⟩
    case measure=>simp [intOf];omega
   ·have Hn:=Qh (show getE t p=(x,true) by rw [getE,Hst.out,he];rfl)
    have hz1:(wr.alloc (.cells (entRow x (.slice aa x.attrs.length ca) (.slice ax x.exts.length cx)) 39)).heap[w.heap.size]? =some (.cells zeroRow 39 (0,0)):=(Below.heap_alloc wr _ _ hsz).trans Hz.out
    have Hz1:=Qh hz1
    have hone:=Xi5 H1.out H2.out
    clear hz1
    go_wp2_with (refine wpList_store_row rfl 39 _ _ rfl w.heap.size (entRow x (.slice aa x.attrs.length ca) (.slice ax x.exts.length cx)) rfl rfl 39 zeroRow Hz1.out hi7 rfl hone ?_)
    try simp only [Exit.inBlock,Exit.then]
    refine bodyPost_ret (v:= .tuple #[entV x (.slice aa x.attrs.length ca) (.slice ax x.exts.length cx),.bool true]) ?_ rfl ?_
    ·rw [results_cell_tmp rfl]
     simp [asAddr,run_loadVar_row _ w.heap.size 39 39 (entRow x (.slice aa x.attrs.length ca) (.slice ax x.exts.length cx)) (0,0) _ (setRow_heap _ _ _ _ _ _ Hz1.out) Tryz.underlying39 rfl hi7]
    ·rw [Hn.out]
     exact ⟨_,_,rfl,H1.out,H2.out,below_setRow (hb.alloc hb.size _) (Qn _) _⟩
  ·have Hn:=Qh (show getE t p=(zeroE,false) by rw [getE,Hr.out,List.drop_of_length_le (by omega)];rfl)
   have hzo:zeroRow.all (·.oneCell')=true:=by simp [Value.oneCell']
   go_wp2_with (refine wpList_store_row rfl 39 _ _ rfl w.heap.size zeroRow rfl rfl 39 zeroRow Hz.out hi7 rfl hzo ?_)
   try simp only [Exit.inBlock,Exit.then]
   refine bodyPost_ret (v:= .tuple #[.agg zeroRow,.bool false]) ?_ rfl ?_
   ·rw [results_cell_tmp rfl]
    simp [asAddr,run_loadVar_row _ w.heap.size 39 39 zeroRow (0,0) _ (setRow_heap _ _ _ _ _ _ Hz.out) Tryz.underlying39 rfl hi7]
   ·rw [Hn.out]
    exact ⟨.slice none 0 0,.slice none 0 0,rfl,RdS.nil _ _,RdS.nil _ _,below_setRow hb (Qn _) _⟩
theorem Xi6 (t:List Ent) (p:Bytes) (hp:p≠ []):dirErr t p=if (getE t p).2=false then 9 else if (getE t p).1.kind≠2 then 10 else 0:=by
 unfold dirErr getE
 rw [if_neg hp]
 cases getT t p<;>simp
set_option maxRecDepth 100000 in
set_option maxHeartbeats 400000 in
theorem Xqw (I:IH) (v:Value) (t:List Ent) (hv:RdS tEnt I v t) (p:Bytes) (w:World) (hw:Ok I w):
 Calls Tryz.prog 119 #[v,S p] w fun e w'=>e= .returned (.int .i64 (dirErr t p))∧Below w.heap.size w w':=by
 obtain ⟨ao,cap,rfl,hcap,hcm,_⟩:=id hv
 have Hv:=Qh hv;clear hv
 by_cases hp:p= []
 ·obtain ⟨p1,p2,p3,p4⟩:=Xcy hp
  have Hn:=Qh (show dirErr t p=0 by rw [dirErr,if_pos hp])
  clear hp
  go_enter Tryz.func119,Tryz.ntmps119
  go_wp2
  go_ret
  exact ⟨Xac Hn.out.symm,Qb _ _⟩
 ·obtain ⟨p1,p2,p3,p4⟩:=Xcq hp
  have Hn:=Qh (Xi6 t p hp)
  have Hg:=Qh (Xbz I _ t Hv.out p w hw)
  clear hp
  generalize getE t p=g at Hn Hg
  obtain ⟨x,b⟩:=g
  go_enter Tryz.func119,Tryz.ntmps119
  go_wp2_with fail
  refine Hg.out.mono ?_
  rintro e w1 ⟨va,vx,rfl,h1,h2,hb1⟩
  obtain ⟨aa,ca,rfl,_,_,_⟩:=id h1
  obtain ⟨ax,cx,rfl,_,_,_⟩:=id h2
  clear h1 h2
  cases b
  ·have Hn2:=Qh (show dirErr t p=9 by rw [Hn.out];rfl)
   go_wp2
   go_ret
   exact ⟨Xac Hn2.out.symm,hb1.alloc hb1.size _⟩
  ·by_cases hk:x.kind=2
   ·have k1:((x.kind:Int) != 2)=false:=by simpa using hk
    have Hn2:=Qh (show dirErr t p=0 by rw [Hn.out];simp [hk])
    clear hk
    go_wp2
    go_ret
    exact ⟨Xac Hn2.out.symm,hb1.alloc hb1.size _⟩
   ·have k1:((x.kind:Int) != 2)=true:=by simpa using hk
    have Hn2:=Qh (show dirErr t p=10 by rw [Hn.out];simp [hk])
    clear hk
    go_wp2
    go_ret
    exact ⟨Xac Hn2.out.symm,hb1.alloc hb1.size _⟩
theorem Xo4 (a b:Xt) (W:World):(binOp .neq 73 (.agg #[.int .i64 a.s,.int .i64 a.o,.int .i64 a.n]) (.agg #[.int .i64 b.s,.int .i64 b.o,.int .i64 b.n])).run Tryz.prog W= .ok (.bool (!decide (a=b))) W:=by
 rw [Xfn _ _ [(3,0,false),(3,1,false),(3,2,false)] W (by kernel_rfl) (by kernel_rfl) (by kernel_rfl)]
 obtain ⟨a1,a2,a3⟩:=a
 obtain ⟨b1,b2,b3⟩:=b
 simp [go_sem]
 by_cases h1:a1=b1<;>by_cases h2:a2=b2<;>by_cases h3:a3=b3<;>simp [h1,h2,h3]
set_option maxRecDepth 100000 in
set_option maxHeartbeats 1000000 in
theorem Xhf (I:IH) (a b:Ent) (va vx vb vy:Value) (hva:RdS tAt I va a.attrs) (hvx:RdS tXt I vx a.exts) (hvb:RdS tAt I vb b.attrs) (hvy:RdS tXt I vy b.exts) (w:World) (hw:Ok I w):
 Calls Tryz.prog 22 #[entV a va vx,entV b vb vy] w fun e w'=>e= .returned (.bool (decide (a=b)))∧Below w.heap.size w w':=by
 have hl1:=hvx.len_le
 have hl2:=hvy.len_le
 obtain ⟨aa,ca,rfl,_,_,_⟩:=id hva
 obtain ⟨ax,cx,rfl,hcx,hcxm,_⟩:=id hvx
 obtain ⟨aa2,ca2,rfl,_,_,_⟩:=id hvb
 obtain ⟨ax2,cx2,rfl,hcy,hcym,_⟩:=id hvy
 have Hsm:=Qh (fun w hw=>Xph I _ _ a.attrs b.attrs hva hvb w hw)
 have Hvx:=Qh hvx
 have Hvy:=Qh hvy
 clear hva hvx hvb hvy
 by_cases h1:a.kind=b.kind
 case neg=>
  have k1:((a.kind:Int) != b.kind)=true:=by simpa using h1
  have Hn:=Qh (show decide (a=b)=false from Qf fun e=>h1 (by rw [e]))
  clear h1
  go_enter Tryz.func22,Tryz.ntmps22
  go_wp2
  go_ret
  exact ⟨Xah Hn.out.symm,((Qb _ _).alloc (Qn _) _).alloc (by simp) _⟩
 have k1:((a.kind:Int) != b.kind)=false:=by simpa using h1
 by_cases h2:a.path=b.path
 case neg=>
  have k2:(a.path != b.path)=true:=by simpa using h2
  have k2':(a.path==b.path)=false:=by simpa using h2
  have Hn:=Qh (show decide (a=b)=false from Qf fun e=>h2 (by rw [e]))
  clear h2 h1
  go_enter Tryz.func22,Tryz.ntmps22
  go_wp2
  go_ret
  exact ⟨Xah Hn.out.symm,((Qb _ _).alloc (Qn _) _).alloc (by simp) _⟩
 have k2:(a.path != b.path)=false:=by simpa using h2
 have k2':(a.path==b.path)=true:=by simpa using h2
 by_cases h3:a.attrs=b.attrs
 case neg=>
  have Hn:=Qh (show decide (a=b)=false from Qf fun e=>h3 (by rw [e]))
  rw [Qf h3] at Hsm
  clear h3 h2 h1
  go_enter Tryz.func22,Tryz.ntmps22
  go_wp2_with fail
  refine (Hsm.out _ ((hw.alloc _).alloc _)).mono ?_
  rintro e w1 ⟨rfl,hb1⟩
  have hb1':Below w.heap.size w w1:=(((Qb _ _).alloc (Qn _) _).alloc (by simp) _).trans (hb1.mono (by simp;omega))
  have hB:=entB (n:=w.heap.size+1) (e:=b) (by simp) hb1
  have hA:=(EntB.past (entB (e:=a) (t:=39) rfl (Qb _ _)) (.cells #[.int .i64 b.kind,S b.path,.slice aa2 b.attrs.length ca2,S b.target,.int .i64 b.size,S b.digest,.slice ax2 b.exts.length cx2] 39)).thru hb1
  obtain ⟨c0,c1,c2,c3,c4,c5,c6⟩:=hA
  obtain ⟨d0,d1,d2,d3,d4,d5,d6⟩:=hB
  clear hb1
  go_wp2
  go_ret
  exact ⟨Xah Hn.out.symm,hb1'⟩
 rw [Qt h3] at Hsm
 by_cases h4:a.target=b.target
 case neg=>
  have k4:(a.target != b.target)=true:=by simpa using h4
  have k4':(a.target==b.target)=false:=by simpa using h4
  have Hn:=Qh (show decide (a=b)=false from Qf fun e=>h4 (by rw [e]))
  clear h4 h3 h2 h1
  go_enter Tryz.func22,Tryz.ntmps22
  go_wp2_with fail
  refine (Hsm.out _ ((hw.alloc _).alloc _)).mono ?_
  rintro e w1 ⟨rfl,hb1⟩
  have hb1':Below w.heap.size w w1:=(((Qb _ _).alloc (Qn _) _).alloc (by simp) _).trans (hb1.mono (by simp;omega))
  have hB:=entB (n:=w.heap.size+1) (e:=b) (by simp) hb1
  have hA:=(EntB.past (entB (e:=a) (t:=39) rfl (Qb _ _)) (.cells #[.int .i64 b.kind,S b.path,.slice aa2 b.attrs.length ca2,S b.target,.int .i64 b.size,S b.digest,.slice ax2 b.exts.length cx2] 39)).thru hb1
  obtain ⟨c0,c1,c2,c3,c4,c5,c6⟩:=hA
  obtain ⟨d0,d1,d2,d3,d4,d5,d6⟩:=hB
  clear hb1
  go_wp2
  go_ret
  exact ⟨Xah Hn.out.symm,hb1'⟩
 have k4:(a.target != b.target)=false:=by simpa using h4
 have k4':(a.target==b.target)=true:=by simpa using h4
 by_cases h5:a.size=b.size
 case neg=>
  have k5:((a.size:Int) != b.size)=true:=by simpa using h5
  have Hn:=Qh (show decide (a=b)=false from Qf fun e=>h5 (by rw [e]))
  clear h5 h4 h3 h2 h1
  go_enter Tryz.func22,Tryz.ntmps22
  go_wp2_with fail
  refine (Hsm.out _ ((hw.alloc _).alloc _)).mono ?_
  rintro e w1 ⟨rfl,hb1⟩
  have hb1':Below w.heap.size w w1:=(((Qb _ _).alloc (Qn _) _).alloc (by simp) _).trans (hb1.mono (by simp;omega))
  have hB:=entB (n:=w.heap.size+1) (e:=b) (by simp) hb1
  have hA:=(EntB.past (entB (e:=a) (t:=39) rfl (Qb _ _)) (.cells #[.int .i64 b.kind,S b.path,.slice aa2 b.attrs.length ca2,S b.target,.int .i64 b.size,S b.digest,.slice ax2 b.exts.length cx2] 39)).thru hb1
  obtain ⟨c0,c1,c2,c3,c4,c5,c6⟩:=hA
  obtain ⟨d0,d1,d2,d3,d4,d5,d6⟩:=hB
  clear hb1
  go_wp2
  go_ret
  exact ⟨Xah Hn.out.symm,hb1'⟩
 have k5:((a.size:Int) != b.size)=false:=by simpa using h5
 by_cases h6:a.digest=b.digest
 case neg=>
  have k6:(a.digest != b.digest)=true:=by simpa using h6
  have k6':(a.digest==b.digest)=false:=by simpa using h6
  have Hn:=Qh (show decide (a=b)=false from Qf fun e=>h6 (by rw [e]))
  clear h6 h5 h4 h3 h2 h1
  go_enter Tryz.func22,Tryz.ntmps22
  go_wp2_with fail
  refine (Hsm.out _ ((hw.alloc _).alloc _)).mono ?_
  rintro e w1 ⟨rfl,hb1⟩
  have hb1':Below w.heap.size w w1:=(((Qb _ _).alloc (Qn _) _).alloc (by simp) _).trans (hb1.mono (by simp;omega))
  have hB:=entB (n:=w.heap.size+1) (e:=b) (by simp) hb1
  have hA:=(EntB.past (entB (e:=a) (t:=39) rfl (Qb _ _)) (.cells #[.int .i64 b.kind,S b.path,.slice aa2 b.attrs.length ca2,S b.target,.int .i64 b.size,S b.digest,.slice ax2 b.exts.length cx2] 39)).thru hb1
  obtain ⟨c0,c1,c2,c3,c4,c5,c6⟩:=hA
  obtain ⟨d0,d1,d2,d3,d4,d5,d6⟩:=hB
  clear hb1
  go_wp2
  go_ret
  exact ⟨Xah Hn.out.symm,hb1'⟩
 have k6:(a.digest != b.digest)=false:=by simpa using h6
 have k6':(a.digest==b.digest)=true:=by simpa using h6
 have Hab:=Qh (show decide (a=b)=decide (a.exts=b.exts) by
  rw [decide_eq_decide]
  constructor
  ·intro e;rw [e]
  ·intro e
   cases a
   cases b
   simp_all)
 clear h6 h5 h4 h3 h2 h1
 by_cases hll:a.exts.length=b.exts.length
 case neg=>
  have k7:((a.exts.length:Int) != (b.exts.length:Int))=true:=by rw [bne_iff_ne];omega
  have Hn:=Qh (show decide (a=b)=false by rw [Hab.out,Qf];intro e;exact hll (by rw [e]))
  clear hll
  go_enter Tryz.func22,Tryz.ntmps22
  go_wp2_with fail
  refine (Hsm.out _ ((hw.alloc _).alloc _)).mono ?_
  rintro e w1 ⟨rfl,hb1⟩
  have hb1':Below w.heap.size w w1:=(((Qb _ _).alloc (Qn _) _).alloc (by simp) _).trans (hb1.mono (by simp;omega))
  have hB:=entB (n:=w.heap.size+1) (e:=b) (by simp) hb1
  have hA:=(EntB.past (entB (e:=a) (t:=39) rfl (Qb _ _)) (.cells #[.int .i64 b.kind,S b.path,.slice aa2 b.attrs.length ca2,S b.target,.int .i64 b.size,S b.digest,.slice ax2 b.exts.length cx2] 39)).thru hb1
  obtain ⟨c0,c1,c2,c3,c4,c5,c6⟩:=hA
  obtain ⟨d0,d1,d2,d3,d4,d5,d6⟩:=hB
  clear hb1
  go_wp2
  go_ret
  exact ⟨Xah Hn.out.symm,hb1'⟩
 have k7:((a.exts.length:Int) != (b.exts.length:Int))=false:=by rw [hll];simp
 have Hll:=Qh hll
 clear hll
 go_enter Tryz.func22,Tryz.ntmps22
 go_wp2_with fail
 refine (Hsm.out _ ((hw.alloc _).alloc _)).mono ?_
 rintro e w1 ⟨rfl,hb1⟩
 have hb1':Below w.heap.size w w1:=(((Qb _ _).alloc (Qn _) _).alloc (by simp) _).trans (hb1.mono (by simp;omega))
 have hB:=entB (n:=w.heap.size+1) (e:=b) (by simp) hb1
 have hA:=(EntB.past (entB (e:=a) (t:=39) rfl (Qb _ _)) (.cells #[.int .i64 b.kind,S b.path,.slice aa2 b.attrs.length ca2,S b.target,.int .i64 b.size,S b.digest,.slice ax2 b.exts.length cx2] 39)).thru hb1
 obtain ⟨c0,c1,c2,c3,c4,c5,c6⟩:=hA
 obtain ⟨d0,d1,d2,d3,d4,d5,d6⟩:=hB
 clear hb1
 have HA:=Qh (⟨c0,c1,c2,c3,c4,c5,c6⟩:EntB w1 w.heap.size a _ _)
 have HB:=Qh (⟨d0,d1,d2,d3,d4,d5,d6⟩:EntB w1 _ b _ _)
 have hok1:Ok I w1:=hw.below (Qn _) hb1'
 go_wp2_with fail
 clear c0 c1 c2 c3 c4 c5 c6 d0 d1 d2 d3 d4 d5 d6
 go_loopw [5] (fun s5 wr=> ∃k:Nat,k≤a.exts.length∧s5= .int .i64 k∧a.exts.take k=b.exts.take k∧Below w1.heap.size w1 wr) (fun i _=>a.exts.length-(intOf i).toNat)
 case atStart=>exact ⟨0,Nat.zero_le _,rfl,rfl,Qb _ _⟩
 case round=>
  obtain ⟨k,hk,rfl,hr,hb⟩:=hrel
  have Hr:=Qh hr;clear hr
  have hwr:Ok I wr:=hok1.below (Qn _) hb
  have c6:=(HA.out.thru hb).c6
  have d6:=(HB.out.thru hb).c6
  by_cases hlt:k<a.exts.length
  ·have hlt2:k<b.exts.length:=by rw [←Hll.out];exact hlt
   obtain ⟨p,bb,off,cap',hp,hvv,p0,p1,p2⟩:=xtAt Hvx.out hwr k hlt
   cases hvv
   obtain ⟨q,b',off',cap'',hq,hvv,q0,q1,q2⟩:=xtAt Hvy.out hwr k hlt2
   cases hvv
   have Hp:=Qh hp
   have Hq:=Qh hq
   have x0:=cell_regrown p0
   have x1:=cell_regrown p1
   have x2:=cell_regrown p2
   have y0:=cell_regrown q0
   have y1:=cell_regrown q1
   have y2:=cell_regrown q2
   have e6:=cell_regrown c6
   have f6:=cell_regrown d6
   clear hp hq
   have hneq:=Xo4 p q
   by_cases hpq:p=q
   ·rw [Qt hpq] at hneq
    have Hn:=Qh (show a.exts.take (k+1)=b.exts.take (k+1) by rw [List.take_succ_eq_append_getElem hlt,List.take_succ_eq_append_getElem hlt2,Hr.out,Hp.out,Hq.out,hpq])
    clear hpq
    go_wp2_with fail
    refine wp_region_quiet_below (by kernel_rfl) (by kernel_rfl) ?_
    repeat (go_big_quiet_step ((fail)))
    refine wpQuiet_nil ?_
    intro w2 hwq
    have hb2:Below (wr).heap.size (wr) w2:=by
     obtain ⟨pq,rfl⟩:=hwq
     exact below_regrown _ _ _
    clear hwq
    go_wp2
    go_roundw
    case rel=>exact ⟨k+1,by omega,by go_num,Hn.out,hb.trans (hb2.mono hb.size)⟩
    case measure=>simp [intOf];omega
   ·rw [Qf hpq] at hneq
    have Hn:=Qh (show decide (a=b)=false by
     rw [Hab.out,Qf]
     intro h
     apply hpq
     rw [←Hp.out,←Hq.out]
     simp [h])
    clear hpq
    go_wp2_with fail
    refine wp_region_quiet_below (by kernel_rfl) (by kernel_rfl) ?_
    repeat (go_big_quiet_step ((fail)))
    refine wpQuiet_nil ?_
    intro w2 hwq
    have hb2:Below (wr).heap.size (wr) w2:=by
     obtain ⟨pq,rfl⟩:=hwq
     exact below_regrown _ _ _
    clear hwq
    go_wp2
    go_ret
    exact ⟨Xah Hn.out.symm,hb1'.trans ((hb.trans (hb2.mono hb.size)).mono hb1'.size)⟩
  ·have Hn:=Qh (show decide (a=b)=true by
    have:=Hr.out
    rw [List.take_of_length_le (by omega),List.take_of_length_le (by rw [←Hll.out];omega)] at this
    rw [Hab.out,Qt this])
   go_wp2
   go_ret
   exact ⟨Xah Hn.out.symm,hb1'.trans (hb.mono hb1'.size)⟩
abbrev AllE (t:List Ent):Prop:= ∀x∈t,x.Wf
set_option maxRecDepth 100000 in
set_option maxHeartbeats 1000000 in
theorem Xir (I:IH) (v1 v2:Value) (l1 l2:List Ent) (hv1:RdS tEnt I v1 l1) (hv2:RdS tEnt I v2 l2) (w:World) (hw:Ok I w):
 Calls Tryz.prog 26 #[v1,v2] w fun e w'=>e= .returned (.bool (decide (l1=l2)))∧Below w.heap.size w w':=by
 have hlen:=hv1.len_le
 have hlen2:=hv2.len_le
 obtain ⟨ao,cap,rfl,hcap,hcm,_⟩:=id hv1
 obtain ⟨ao2,cap2,rfl,hcap2,hcm2,_⟩:=id hv2
 have Hv1:=Qh hv1;clear hv1
 have Hv2:=Qh hv2;clear hv2
 by_cases hll:l1.length=l2.length
 ·have hn:((l1.length:Int) != (l2.length:Int))=false:=by rw [hll];simp
  have Hll:=Qh hll;clear hll
  go_enter Tryz.func26,Tryz.ntmps26
  go_wp2_with fail
  go_loopw [13] (fun s13 wr=> ∃k:Nat,k≤l1.length∧s13= .int .i64 k∧l1.take k=l2.take k∧Below w.heap.size w wr) (fun i _=>l1.length-(intOf i).toNat)
  case atStart=>exact ⟨0,Nat.zero_le _,rfl,rfl,Qb _ _⟩
  case round=>
   obtain ⟨k,hk,rfl,hr,hb⟩:=hrel
   have Hr:=Qh hr;clear hr
   by_cases hlt:k<l1.length
   ·have hlt2:k<l2.length:=by rw [←Hll.out];exact hlt
    have hwr:Ok I wr:=hw.below (Qn _) hb
    obtain ⟨x,va,vx,b,off,cap',hlx,hvv,⟨c0,c1,c2,c3,c4,c5,c6⟩,h1,h2⟩:=Xbt Hv1.out hwr k hlt
    cases hvv
    obtain ⟨y,vb,vy,b',off',cap'',hly,hvv,⟨d0,d1,d2,d3,d4,d5,d6⟩,h3,h4⟩:=Xbt Hv2.out hwr k hlt2
    cases hvv
    have Hx:=Qh hlx
    have Hy:=Qh hly
    have Heq:=Qh (fun W hW=>Xhf I x y va vx vb vy h1 h2 h3 h4 W hW)
    obtain ⟨aa,ca,rfl,_,_,_⟩:=id h1
    obtain ⟨ax,cx,rfl,_,_,_⟩:=id h2
    obtain ⟨aa2,ca2,rfl,_,_,_⟩:=id h3
    obtain ⟨ax2,cx2,rfl,_,_,_⟩:=id h4
    have c0:=cell_regrown c0
    have c1:=cell_regrown c1
    have c2:=cell_regrown c2
    have c3:=cell_regrown c3
    have c4:=cell_regrown c4
    have c5:=cell_regrown c5
    have c6:=cell_regrown c6
    have d0:=cell_regrown d0
    have d1:=cell_regrown d1
    have d2:=cell_regrown d2
    have d3:=cell_regrown d3
    have d4:=cell_regrown d4
    have d5:=cell_regrown d5
    have d6:=cell_regrown d6
    clear hlx hly h1 h2 h3 h4
    by_cases hxy:x=y
    ·rw [Qt hxy] at Heq
     have Hn:=Qh (show l1.take (k+1)=l2.take (k+1) by rw [List.take_succ_eq_append_getElem hlt,List.take_succ_eq_append_getElem hlt2,Hr.out,Hx.out,Hy.out,hxy])
     clear hxy
     go_wp2_with fail
     refine wp_region_quiet_below (by kernel_rfl) (by kernel_rfl) ?_
     repeat (go_big_quiet_step ((with_reducible exact Calls.regrown_of (Heq.out _ (hwr.below (Qn _) (below_regrown _ _ _))))))
     refine wpQuiet_nil ?_
     intro w2 hwq
     have hb2:Below (wr).heap.size (wr) w2:=by
      obtain ⟨pq,rfl⟩:=hwq
      exact below_regrown _ _ _
     clear hwq
     go_wp2
     go_roundw
     case rel=>exact ⟨k+1,by omega,by go_num,Hn.out,hb.trans (hb2.mono hb.size)⟩
     case measure=>simp [intOf];omega
    ·rw [Qf hxy] at Heq
     have Hn:=Qh (show decide (l1=l2)=false by
      rw [Qf]
      intro h
      apply hxy
      rw [←Hx.out,←Hy.out]
      simp [h])
     clear hxy
     go_wp2_with fail
     refine wp_region_quiet_below (by kernel_rfl) (by kernel_rfl) ?_
     repeat (go_big_quiet_step ((with_reducible exact Calls.regrown_of (Heq.out _ (hwr.below (Qn _) (below_regrown _ _ _))))))
     refine wpQuiet_nil ?_
     intro w2 hwq
     have hb2:Below (wr).heap.size (wr) w2:=by
      obtain ⟨pq,rfl⟩:=hwq
      exact below_regrown _ _ _
     clear hwq
     go_wp2
     go_ret
     exact ⟨Xah Hn.out.symm,hb.trans (hb2.mono hb.size)⟩
   ·have Hn:=Qh (show decide (l1=l2)=true by
     have:=Hr.out
     rw [List.take_of_length_le (by omega),List.take_of_length_le (by rw [←Hll.out];omega)] at this
     rw [Qt this])
    go_wp2
    go_ret
    exact ⟨Xah Hn.out.symm,hb⟩
 ·have hn:((l1.length:Int) != (l2.length:Int))=true:=by rw [bne_iff_ne];omega
  have Hn:=Qh (show decide (l1=l2)=false from Qf fun e=>hll (by rw [e]))
  clear hll
  go_enter Tryz.func26,Tryz.ntmps26
  go_wp2
  go_ret
  exact ⟨Xah Hn.out.symm,Qb _ _⟩
def chkTRFrom (t:List Ent):Option Ent→List Ent→Int
 |_,[]=>0
 |q,x::l=>if entErrR x≠0 then entErrR x else if x.kind≠1∧x.kind≠2∧x.kind≠3 then 10 else if (q.any fun y=> !(ltP (els y.path) (els x.path))) then 14 else if dirErr t (upP x.path)≠0 then dirErr t (upP x.path) else chkTRFrom t (some x) l
def chkTR (t:List Ent):Int:=chkTRFrom t none t
theorem Xt1 {p d:Bytes} (h:ltP (els p) (els d)=true):cmpP p d= -1:=by rw [cmpP,h];rfl
theorem Xt2 {p d:Bytes} (h:ltP (els p) (els d)=false):cmpP p d=0∨cmpP p d=1:=by
 rw [cmpP,h]
 cases ltP (els d) (els p)<;>simp
theorem Xq5 {s:Bytes} (h:pathErr s=0) (hs:s≠ []):parP s=(upP s,0):=by rw [parP,if_neg (by omega),if_neg hs]
end Go.Proofs.YtdeknddamidldaaGreatDoor
