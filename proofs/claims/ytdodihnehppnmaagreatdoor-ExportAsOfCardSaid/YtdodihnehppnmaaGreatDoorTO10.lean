/-
  Walks and laws that the claim's theorem uses: texts PtA PtB PtC PtD PtE, joined; comments out. Conditions: as each theorem says.
-/
import Derived.Test.YtdodihnehppnmaaGreatDoorTO09
import Derived.Laws.CopyRow
set_option linter.all false
namespace Go.Proofs.YtdodihnehppnmaaGreatDoor
open Go.RowKit
def PredE (g:Nat) (cb:Array Value) (l:List Ent) (p:Ent→Bool) (C:World→Prop):Prop:=
 ∀x∈l,∀(a1 a2:Option Addr) (c1 c2:Nat) (W:World),C W→Calls Tryz.prog g (#[entV x (.slice a1 x.attrs.length c1) (.slice a2 x.exts.length c2)]++cb) W fun e w'=>e= .returned (.bool (p x))∧Below W.heap.size W w'
set_option maxRecDepth 100000 in
set_option maxHeartbeats 400000 in
theorem Xes (I:IH) (v:Value) (l:List Ent) (hv:RdS tEnt I v l) (g:Nat) (cb:Array Value) (p:Ent→Bool) (w:World) (hw:Ok I w) (eg:∀args w,(callFunc g args).run Tryz.prog w= .ok (.enter g args) w) (hp:PredE g cb l p (Below w.heap.size w)):
 Calls Tryz.prog 116 #[v,.func (.func g) #[] cb] w fun e w'=>e= .returned (.int .i64 (idxL l p))∧Below w.heap.size w w':=by
 have hlen:=hv.len_le
 obtain ⟨ao,cap,rfl,hcap,hcm,_⟩:=id hv
 have Hv:=Qh hv;clear hv
 have Hp:=Qh hp;clear hp
 go_enter Tryz.func116,Tryz.ntmps116
 go_wp2_with fail
 go_loopw [8] (fun s8 wr=> ∃k:Nat,k≤l.length∧s8= .int .i64 k∧(l.take k).any p=false∧Below w.heap.size w wr) (fun i _=>l.length-(intOf i).toNat)
 case atStart=>exact ⟨0,Nat.zero_le _,rfl,rfl,Qb _ _⟩
 case round=>
  obtain ⟨k,hk,rfl,hr,hb⟩:=hrel
  have Hr:=Qh hr;clear hr
  by_cases hlt:k<l.length
  ·have hwr:Ok I wr:=hw.below (Qn _) hb
   obtain ⟨x,va,vx,b,off,cap',hlx,hvv,⟨c0,c1,c2,c3,c4,c5,c6⟩,h1,h2⟩:=Xbu Hv.out hwr k hlt
   cases hvv
   obtain ⟨aa,ca,rfl,_,_,_⟩:=id h1
   obtain ⟨ax,cx,rfl,_,_,_⟩:=id h2
   have Hlx:=Qh hlx
   have Hcall:=Qh (Hp.out x (by rw [←hlx];exact List.getElem_mem hlt) aa ax ca cx wr hb)
   clear hlx h1 h2
   go_wp2_with fail
   refine Hcall.out.mono ?_
   rintro e w1 ⟨rfl,hb1⟩
   have hb1':=hb.trans (hb1.mono hb.size)
   clear hb1 Hcall c0 c1 c2 c3 c4 c5 c6
   cases hpx:p x
   ·have Hn:=Qh (show (l.take (k+1)).any p=false by rw [List.take_succ_eq_append_getElem hlt,List.any_append,Hr.out,Hlx.out];simp [hpx])
    clear hpx
    go_wp2
    go_roundw
    case rel=>exact ⟨k+1,by omega,by go_num,Hn.out,hb1'⟩
    case measure=>simp [intOf];omega
   ·have Hn:=Qh (Xfh (p:=p) hlt (by rw [Hlx.out];exact hpx) Hr.out)
    clear hpx
    go_wp2
    go_ret
    exact ⟨Xac Hn.out.symm,hb1'⟩
  ·have Hn:=Qh (show idxL l p= -1 from Xfi (by have:=Hr.out;rwa [List.take_of_length_le (by omega)] at this))
   go_wp2
   go_ret
   exact ⟨Xac Hn.out.symm,hb⟩
set_option maxRecDepth 100000 in
theorem Xuy (key:Bytes) (b:Nat) (l:List Ent) (w:World) (hc:w.cell? ⟨b,0,none⟩=some (S key)):PredE 117 #[.pointer (some ⟨b,0,none⟩)] l (fun x=>x.path==key) (Below w.heap.size w):=by
 intro x _ a1 a2 c1 c2 W hW
 have hcW:=Xaa hW hc
 have hc2:=Xab (.cells #[.int .i64 x.kind,S x.path,.slice a1 x.attrs.length c1,S x.target,.int .i64 x.size,S x.digest,.slice a2 x.exts.length c2] 26) hcW
 clear hc hcW
 go_enter Tryz.func117,Tryz.ntmps117
 go_wp2
 go_ret
 exact ⟨rfl,(Qb _ _).alloc (Qn _) _⟩
abbrev isAt (p:Bytes):Ent→Bool:=fun x=>x.path==p
set_option maxRecDepth 100000 in
set_option maxHeartbeats 400000 in
theorem Xsw (I:IH) (v:Value) (t:List Ent) (hv:RdS tEnt I v t) (p:Bytes) (w:World) (hw:Ok I w):
 Calls Tryz.prog 69 #[v,S p] w fun e w'=>e= .returned (.int .i64 (idxL t (isAt p)))∧Below w.heap.size w w':=by
 have Hp:=Qh (Xuy p w.heap.size t (w.alloc (.cells #[S p] 9)) (by simp))
 have Hi:=Qh (Xes I v t hv _ _ _ _ (hw.alloc _) (fun _ _=>by kernel_rfl) Hp.out)
 obtain ⟨ao,cap,rfl,hcap,hcm,_⟩:=id hv
 clear hv
 obtain ⟨q,hq⟩:∃q,idxL t (isAt p)=q:=⟨_,rfl⟩
 have Hq:=Qh hq
 have Hi2:=Qh (Hi.out)
 clear Hi hq
 rw [show (fun x:Ent=>x.path==p)=isAt p from rfl,Hq.out] at Hi2
 rw [Hq.out]
 go_enter Tryz.func69,Tryz.ntmps69
 go_wp2_with fail
 refine Hi2.out.mono ?_
 rintro e w1 ⟨rfl,hb1⟩
 go_wp2
 go_ret
 exact ⟨rfl,((Qb _ _).alloc (Qn _) _).trans (hb1.mono (by simp))⟩
theorem Xlt {t:List Ent} {p:Bytes} {i:Nat} (hi:i<t.length) (hp:isAt p t[i]=true) (hn:(t.take i).any (isAt p)=false):getE t p=(t[i],true):=by
 have:getT t p=some t[i]:=by
  unfold getT
  conv=>lhs;rw [←List.take_append_drop i t]
  rw [List.find?_append,List.drop_eq_getElem_cons hi,List.find?_cons]
  have h2:(t[i].path==p)=true:=hp
  rw [h2]
  have:(t.take i).find? (fun x=>x.path==p)=none:=by
   rw [List.find?_eq_none]
   intro x hx hpx
   rw [List.any_eq_true.2 ⟨x,hx,hpx⟩] at hn
   exact absurd hn (by simp)
  rw [this];rfl
 rw [getE,this]
theorem Xlu {t:List Ent} {p:Bytes} (hn:t.any (isAt p)=false):getE t p=(zeroE,false):=by
 have:getT t p=none:=by
  unfold getT
  rw [List.find?_eq_none]
  intro x hx hpx
  rw [List.any_eq_true.2 ⟨x,hx,hpx⟩] at hn
  exact absurd hn (by simp)
 rw [getE,this]
set_option maxRecDepth 100000 in
set_option maxHeartbeats 1000000 in
theorem Xvo (I:IH) (v:Value) (t:List Ent) (hv:RdS tEnt I v t) (p:Bytes) (w:World) (hw:Ok I w):
 Calls Tryz.prog 67 #[v,S p] w (RetG I w (getE t p)):=by
 have hlen:=hv.len_le
 have Hf:=Qh (Xsw I v t hv p (w.alloc (.cells zeroRow 26)) (hw.alloc _))
 obtain ⟨ao,cap,rfl,hcap,hcm,_⟩:=id hv
 have Hv:=Qh hv;clear hv
 have hi7:(Tryz.prog.info? 26).map (·.size)=some 7:=by kernel_rfl
 have hz0:=heap_alloc_new w (.cells zeroRow 26)
 have Hz0:=Qh hz0
 clear hz0
 rcases Xbz t (isAt p) with ⟨i,hi,e1,e2,e3⟩|⟨e1,e2⟩
 ·have Hn:=Qh (Xlt hi e2 e3)
  rw [e1] at Hf
  clear e1 e2 e3
  go_enter Tryz.func67,Tryz.ntmps67
  go_wp2_with fail
  refine Hf.out.mono ?_
  rintro e w1 ⟨rfl,hb1⟩
  have hok1:Ok I w1:=(hw.alloc _).below (Qn _) hb1
  have hsz:w.heap.size<w1.heap.size:=by have:=hb1.size;simp at this;omega
  have Hz:=Qh ((hb1.block w.heap.size (by simp)).trans Hz0.out)
  have hb1':=((Qb w.heap.size w).alloc (Qn _) (.cells zeroRow 26)).trans (hb1.mono (by simp))
  clear hb1
  obtain ⟨x,va,vx,b,off,cap',hlx,hvv,⟨c0,c1,c2,c3,c4,c5,c6⟩,h1,h2⟩:=Xbu Hv.out hok1 i hi
  cases hvv
  obtain ⟨aa,ca,rfl,_,_,_⟩:=id h1
  obtain ⟨ax,cx,rfl,_,_,_⟩:=id h2
  have H1:=Qh h1
  have H2:=Qh h2
  rw [hlx] at Hn
  have hone:=Xjd h1 h2
  clear hlx h1 h2
  go_wp2_with (refine wpList_store_row rfl 26 _ _ rfl w.heap.size (entRow x (.slice aa x.attrs.length ca) (.slice ax x.exts.length cx)) rfl rfl 26 zeroRow Hz.out hi7 rfl hone ?_)
  try simp only [Exit.inBlock,Exit.then]
  refine bodyPost_ret (v:= .tuple #[entV x (.slice aa x.attrs.length ca) (.slice ax x.exts.length cx),.bool true]) ?_ rfl ?_
  ·rw [results_cell_tmp rfl]
   simp [asAddr,run_loadVar_row _ w.heap.size 26 26 (entRow x (.slice aa x.attrs.length ca) (.slice ax x.exts.length cx)) (0,0) _ (setRow_heap _ _ _ _ _ _ Hz.out) Tryz.underlying26 rfl hi7]
  ·rw [Hn.out]
   exact ⟨_,_,rfl,H1.out,H2.out,below_setRow hb1' (Qn _) _⟩
 ·have Hn:=Qh (Xlu e2)
  rw [e1] at Hf
  clear e1 e2
  go_enter Tryz.func67,Tryz.ntmps67
  go_wp2_with fail
  refine Hf.out.mono ?_
  rintro e w1 ⟨rfl,hb1⟩
  have Hz:=Qh ((hb1.block w.heap.size (by simp)).trans Hz0.out)
  have hb1':=((Qb w.heap.size w).alloc (Qn _) (.cells zeroRow 26)).trans (hb1.mono (by simp))
  clear hb1
  have hzo:zeroRow.all (·.oneCell')=true:=by simp [Value.oneCell']
  go_wp2_with (refine wpList_store_row rfl 26 _ _ rfl w.heap.size zeroRow rfl rfl 26 zeroRow Hz.out hi7 rfl hzo ?_)
  try simp only [Exit.inBlock,Exit.then]
  refine bodyPost_ret (v:= .tuple #[.agg zeroRow,.bool false]) ?_ rfl ?_
  ·rw [results_cell_tmp rfl]
   simp [asAddr,run_loadVar_row _ w.heap.size 26 26 zeroRow (0,0) _ (setRow_heap _ _ _ _ _ _ Hz.out) Tryz.underlying26 rfl hi7]
  ·rw [Hn.out]
   exact ⟨.slice none 0 0,.slice none 0 0,rfl,RdS.nil _ _,RdS.nil _ _,below_setRow hb1' (Qn _) _⟩
set_option maxRecDepth 100000 in
set_option maxHeartbeats 400000 in
theorem Xgn (I:IH) (v:Value) (t:List Ent) (hv:RdS tEnt I v t) (p:Bytes) (w:World) (hw:Ok I w):
 Calls Tryz.prog 83 #[v,S p] w fun e w'=>e= .returned (.int .i64 (dirErr t p))∧Below w.heap.size w w':=by
 have Hg:=Qh (Xvo I v t hv p w hw)
 obtain ⟨ao,cap,rfl,hcap,hcm,_⟩:=id hv
 clear hv
 by_cases hp:p= []
 ·obtain ⟨p1,p2,p3,p4⟩:=Xdv hp
  have Hn:=Qh (show dirErr t p=0 by rw [dirErr,if_pos hp])
  clear hp
  generalize getE t p=g at Hg
  obtain ⟨x,b⟩:=g
  go_enter Tryz.func83,Tryz.ntmps83
  go_wp2_with fail
  refine Hg.out.mono ?_
  rintro e w1 ⟨va,vx,rfl,h1,h2,hb1⟩
  obtain ⟨aa,ca,rfl,_,_,_⟩:=id h1
  obtain ⟨ax,cx,rfl,_,_,_⟩:=id h2
  clear h1 h2
  go_wp2
  go_ret
  exact ⟨Xac Hn.out.symm,hb1.alloc hb1.size _⟩
 ·obtain ⟨p1,p2,p3,p4⟩:=Xcw hp
  have Hn:=Qh (Xjf t p hp)
  clear hp
  generalize getE t p=g at Hn Hg
  obtain ⟨x,b⟩:=g
  go_enter Tryz.func83,Tryz.ntmps83
  go_wp2_with fail
  refine Hg.out.mono ?_
  rintro e w1 ⟨va,vx,rfl,h1,h2,hb1⟩
  obtain ⟨aa,ca,rfl,_,_,_⟩:=id h1
  obtain ⟨ax,cx,rfl,_,_,_⟩:=id h2
  clear h1 h2
  cases b
  ·have Hn2:=Qh (show dirErr t p=9 by rw [Hn.out];rfl)
   go_wp2
   go_ret
   exact ⟨Xac Hn2.out.symm,hb1.alloc hb1.size _⟩
  ·by_cases hk:x.kind=2
   ·have k1:((x.kind:Int) != 2)=false:=by simpa using hk
    have Hn2:=Qh (show dirErr t p=0 by rw [Hn.out];simp [hk])
    clear hk
    go_wp2
    go_ret
    exact ⟨Xac Hn2.out.symm,hb1.alloc hb1.size _⟩
   ·have k1:((x.kind:Int) != 2)=true:=by simpa using hk
    have Hn2:=Qh (show dirErr t p=10 by rw [Hn.out];simp [hk])
    clear hk
    go_wp2
    go_ret
    exact ⟨Xac Hn2.out.symm,hb1.alloc hb1.size _⟩
def inT (k:Int):Bool:=decide (k=1) || decide (k=2) || decide (k=3)
theorem inT_iff {k:Int}:inT k=true↔k=1∨k=2∨k=3:=by simp [inT,or_assoc]
set_option maxRecDepth 100000 in
theorem Xid (k:Int) (w:World):Calls Tryz.prog 77 #[.int .i64 k] w fun e w'=>e= .returned (.bool (inT k))∧w=w':=by
 by_cases h1:k=1
 ·have Hn:=Qh (show inT k=true from inT_iff.2 (.inl h1))
  have f1:((k:Int)==1)=true:=by simpa using h1
  clear h1
  go_enter Tryz.func77,Tryz.ntmps77
  go_wp2
  go_ret
  exact ⟨Xan Hn.out.symm,rfl⟩
 by_cases h2:k=2
 ·have Hn:=Qh (show inT k=true from inT_iff.2 (.inr (.inl h2)))
  have f1:((k:Int)==1)=false:=by simpa using h1
  have f2:((k:Int)==2)=true:=by simpa using h2
  clear h1 h2
  go_enter Tryz.func77,Tryz.ntmps77
  go_wp2
  go_ret
  exact ⟨Xan Hn.out.symm,rfl⟩
 by_cases h3:k=3
 ·have Hn:=Qh (show inT k=true from inT_iff.2 (.inr (.inr h3)))
  have f1:((k:Int)==1)=false:=by simpa using h1
  have f2:((k:Int)==2)=false:=by simpa using h2
  have f3:((k:Int)==3)=true:=by simpa using h3
  clear h1 h2 h3
  go_enter Tryz.func77,Tryz.ntmps77
  go_wp2
  go_ret
  exact ⟨Xan Hn.out.symm,rfl⟩
 have Hn:=Qh (show inT k=false by
  cases h:inT k with
  |false=>rfl
  |true=>rcases inT_iff.1 h with h|h|h<;>contradiction)
 have f1:((k:Int)==1)=false:=by simpa using h1
 have f2:((k:Int)==2)=false:=by simpa using h2
 have f3:((k:Int)==3)=false:=by simpa using h3
 clear h1 h2 h3
 go_enter Tryz.func77,Tryz.ntmps77
 go_wp2
 go_ret
 exact ⟨Xan Hn.out.symm,rfl⟩
def SmlT (t:List Ent):Prop:= ∀x∈t,x.path.length≤4294967280∧x.target.length≤4294967280
theorem Xke (t:List Ent) (q:Option Ent) (x:Ent) (l:List Ent):chkTFrom t q (x::l)=if entErr x≠0 then entErr x else if x.kind≠1∧x.kind≠2∧x.kind≠3 then 10 else if (q.any fun y=> !(ltP (els y.path) (els x.path))) then 14 else if dirErr t (upP x.path)≠0 then dirErr t (upP x.path) else chkTFrom t (some x) l:=rfl
theorem Xnx {x:Ent} (h:entErr x=0):pathErr x.path=0∧(x.path≠ []∨5≤x.kind):=by
 rw [Xdr] at h
 split at h
 ·omega
 ·split at h
  ·contradiction
  ·rename_i h1 h2
   refine ⟨Classical.byContradiction h2,?_⟩
   split at h
   ·omega
   ·rename_i h3
    by_cases hp:x.path= []
    ·right;exact Int.not_lt.1 fun h4=>h3 ⟨hp,h4⟩
    ·exact .inl hp
theorem Xbi:(Tryz.prog.info? 26).map (fun i=>(i.zero,i.size,i.bytes))=some (some (.agg #[.int .i64 0,.string ⟨#[]⟩,.slice none 0 0,.string ⟨#[]⟩,.int .i64 0,.string ⟨#[]⟩,.slice none 0 0]),7,112):=by kernel_rfl
set_option maxRecDepth 100000 in
set_option maxHeartbeats 400000 in
theorem Xb4 (I:IH) (v:Value) (l:List _) (hv:RdS tEnt I v l) (w:World) (hw:Ok I w) (hbig:l.length*112≤140737488355328):
 Calls Tryz.prog 81 #[v] w fun e w'=> ∃v',e= .returned v'∧OwnS tEnt 26 I w' w.heap.size v' l∧Below w.heap.size w w':=by
 obtain ⟨i0,hi,hz0,hz1,hz2⟩:=info_parts Xbi
 have q22:∀(w:World) (a:Option Addr) (n c n' c':Nat),(binOp .eql 33 (.slice a n c) (.slice none n' c')).run Tryz.prog w= .ok (.bool a.isNone) w:=fun w a n c n' c'=>Lib.run_eql_slice_nil w _ _ a n c n' c' Tryz.underlying33
 obtain ⟨ao,cap,xs,rfl,hcap,hcm,hL,hx⟩:=hv.cells hw (by decide)
 have HL:=Qh hL
 have Hx:=Qh hx
 clear hL hx hv
 cases ao with
 |none=>
  have h0:l.length=0:=by
   rcases Nat.eq_zero_or_pos l.length with h|h
   ·exact h
   ·obtain ⟨b,off,arr,e,_⟩:=Hx.out h;cases e
  have:l= []:=List.eq_nil_of_length_eq_zero h0
  subst this
  go_enter Tryz.func81,Tryz.ntmps81
  go_wp2
  go_ret
  exact ⟨_,rfl,OwnS.nil _ _ _ _ _,Qb _ _⟩
 |some a=>
  go_enter Tryz.func81,Tryz.ntmps81
  go_wp2_with (at_builtin;refine wpList_append_own _ rfl _ _ 33 rfl w.heap.size 26 i0 _ 7 112 Tryz.underlying33 hi hz0 hz1 hz2 rfl (by decide) _ _ _ rfl (World.ownsRow_made w #[] 0 (Qn _) (Nat.zero_le _) (by simp)) a l.length cap xs rfl ?qc1 ?qc2 ?qc3 ?qc4 ?qc5 ?qc6 ?_)
  case qc1=>exact HL.out.1
  case qc2=>
   intro j u hj
   have hl:0<l.length:=by
    have:=(List.getElem?_eq_some_iff.1 hj).1
    rw [HL.out.1] at this
    rcases Nat.eq_zero_or_pos l.length with h|h
    ·rw [h] at this;omega
    ·exact h
   obtain ⟨b,off,arr,e,_,hb,hc⟩:=Hx.out hl
   cases e
   rw [Addr.add_lit]
   rw [World.cell?_alloc_lt _ _ _ hb]
   exact hc j u hj
  case qc3=>exact HL.out.oneCell
  case qc4=>rw [Nat.zero_add];omega
  case qc5=>rw [Nat.zero_add];exact hbig
  case qc6=>simp
  intro v' w1 hown hgrow _
  go_wp2
  go_ret
  refine ⟨v',rfl,⟨xs,(by have hq:=hown;first|exact hq|(simp at hq;exact hq)),HL.out⟩,?_⟩
  exact ((Qb _ w).alloc (Qn _) _).grown hgrow (by simp) (by intro k hk;simp [Value.ownBlock] at hk;omega)
set_option maxRecDepth 100000 in
set_option maxHeartbeats 2000000 in
theorem Xiv (I:IH) (B:Nat) (v:Value) (l:List _) (x:_) (vb:Nat) (news:List Value) (w:World) (hv:OwnS tEnt 26 I w B v l) (hx:tEnt.rd I news x)
 (hvs:∀j u,news[j]? =some u→w.cell? ⟨vb,j,none⟩=some u) (hbig:(l.length+1)*112≤140737488355328) (hB:B≤w.heap.size):
 Calls Tryz.prog 86 #[v,.int .i64 l.length,.slice (some ⟨vb,0,none⟩) 1 1] w fun e w'=> ∃v',e= .returned v'∧OwnS tEnt 26 I w' B v' (l++ [x])∧w.grownBy w' v.ownBlock:=by
 obtain ⟨i0,hi,hz0,hz1,hz2⟩:=info_parts Xbi
 obtain ⟨xs,hown,hL⟩:=hv
 have HL:=Qh hL
 have Hx:=Qh hx
 have Hvs:=Qh hvs
 have hml:maxLen=9223372036854775807:=rfl
 have hlen:l.length≤4611686018427387904:=by omega
 clear hL hx hvs
 have hcase:v= .slice none 0 0∧l.length=0∨ ∃g cap,v= .slice (some ⟨g,0,none⟩) l.length cap∧l.length≤cap∧cap≤9223372036854775807:=by
  rcases hown.2 with h|⟨g,cap,cur,h1,_,_,h2,h3,_⟩
  ·exact .inl h
  ·exact .inr ⟨g,cap,h1,h2,by rw [hml] at h3;exact h3⟩
 have Hml:=Qh hml
 clear hml
 rcases hcase with ⟨rfl,h0⟩|⟨g,cap,rfl,hcap,hcm⟩
 ·have:l= []:=List.eq_nil_of_length_eq_zero h0
  subst this
  go_enter Tryz.func86,Tryz.ntmps86
  go_wp2_with (at_builtin;refine wpList_append_own _ rfl _ _ 33 rfl B 26 i0 _ 7 112 Tryz.underlying33 hi hz0 hz1 hz2 rfl (by decide) _ _ _ rfl hown ⟨vb,0,none⟩ 1 1 news rfl ?qc1 ?qc2 ?qc3 ?qc4 ?qc5 ?qc6 ?_)
  case qc1=>exact tEnt.len Hx.out
  case qc2=>intro j u hj;rw [Addr.add_lit,Nat.zero_add];exact Hvs.out j u hj
  case qc3=>exact tEnt.one Hx.out
  case qc4=>rw [Hml.out];simp
  case qc5=>simp
  case qc6=>exact hB
  intro v' w1 hown1 hgrow _
  go_wp2
  go_ret
  exact ⟨v',rfl,⟨_,hown1,LiesL.append HL.out (LiesL.one Hx.out)⟩,hgrow⟩
 ·go_enter Tryz.func86,Tryz.ntmps86
  go_wp2_with (at_builtin;refine wpList_append_own _ rfl _ _ 33 rfl B 26 i0 _ 7 112 Tryz.underlying33 hi hz0 hz1 hz2 rfl (by decide) _ _ _ rfl hown ⟨vb,0,none⟩ 1 1 news rfl (tEnt.len Hx.out) (fun j u hj=>by rw [Addr.add_lit,Nat.zero_add];exact Hvs.out j u hj) (tEnt.one Hx.out) (by rw [Hml.out];omega) hbig hB ?_)
  all_goals
   intro v' w1 hown1 hgrow _
   go_wp2
   go_ret
   exact ⟨v',rfl,⟨_,by rw [List.length_append];exact hown1,LiesL.append HL.out (LiesL.one Hx.out)⟩,hgrow⟩
set_option maxRecDepth 100000 in
set_option maxHeartbeats 4000000 in
theorem Xgv (I:IH) (B g cap i:Nat) (l:List _) (x:_) (vb:Nat) (tb:TypeId) (news:List Value) (w:World) (hv:OwnS tEnt 26 I w B (.slice (some ⟨g,0,none⟩) l.length cap) l) (hx:tEnt.rd I news x)
 (hvb:w.heap[vb]? =some (.cells news.toArray tb (0,0))) (hne:vb≠g) (hi:i<l.length) (hroom:l.length+1≤cap) (hcm:cap≤9223372036854775807):
 Calls Tryz.prog 86 #[.slice (some ⟨g,0,none⟩) l.length cap,.int .i64 i,.slice (some ⟨vb,0,none⟩) 1 1] w fun e w'=> ∃v',e= .returned v'∧OwnS tEnt 26 I w' B v' (l.take i++x::l.drop i)∧w.grownBy w' (some g):=by
 obtain ⟨i0,hif,hz0,hz1,hz2⟩:=info_parts Xbi
 obtain ⟨xs,⟨hxl,hown⟩,hL⟩:=hv
 rcases hown with ⟨h0,_⟩|⟨g',cap',cur,h1,hBg,hg,_,hcm',hcs,htk⟩
 ·cases h0
 injection h1 with h1a h1b h1c
 injection h1a with h1a
 injection h1a with h1a
 subst h1a h1c
 have hsz:(Tryz.prog.info? 26).map (·.size)=some 7:=by rw [hif];simp [hz1]
 have hnl:news.length=7:=tEnt.len hx
 have hn1:=tEnt.one hx
 have hxl':xs.length=l.length*7:=hxl
 have hcs':cur.size=cap*7:=hcs
 have htk':cur.toList.take xs.length=xs:=by rw [hxl];exact htk
 have hov:∀lb cb,(callFunc 135 #[.slice (some ⟨vb,0,none⟩) 1 1,.slice (some ⟨g,(i+1)*7,none⟩) lb cb]).run Tryz.prog w= .ok (.value (.bool false)) w:=fun lb cb=>by
  rw [run_callFunc_extern Tryz.func135 (by kernel_rfl) (by kernel_rfl) (by kernel_rfl) (e:=Extern.SlicesOverlaps.overlaps #[33,33] #[4]) (by kernel_rfl),
   Lib.run_overlaps_apart w 33 4 26 Tryz.underlying33 7 (fun w=>by simp [go_sem]) ⟨vb,0,none⟩ ⟨g,(i+1)*7,none⟩ 1 1 lb cb hne tb 26 7 cur.size (by simp [World.shape?,hvb,hnl]) (by simp [World.shape?,hg]) (by omega) (by simp [World.frozen?,hvb]) (by simp [World.frozen?,hvb])]
  rfl
 obtain ⟨cur1,hcur1⟩:∃c,c=over cur (i*7+7) (xs.drop (i*7)):=⟨_,rfl⟩
 have hs1:cur1.size=cur.size:=by rw [hcur1];exact Xa4 _ _ _ (by rw [List.length_drop];omega)
 obtain ⟨cur2,hcur2⟩:∃c,c=over cur1 (i*7) news:=⟨_,rfl⟩
 have hs2:cur2.size=cur1.size:=by rw [hcur2];exact Xa4 _ _ _ (by omega)
 have hfin:cur2.toList.take ((l.length+1)*7)=xs.take (i*7)++news++xs.drop (i*7):=by
  have:=insert_row cur xs news (i*7) 7 (by omega) htk' hnl (by omega)
  rw [←hcur1,←hcur2] at this
  rw [show (l.length+1)*7=xs.length+7 by omega]
  exact this
 have hcp1:∀ty dc sc,(Builtin.copy_ #[33,33] ty #[.slice (some ⟨g,(i+1)*7,none⟩) (l.length-i) dc,.slice (some ⟨g,i*7,none⟩) (l.length+1-i) sc]).run Tryz.prog w.drew= .ok (goInt ((l.length-i:Nat):Int)) (w.drew.setRow g cur1):=fun ty dc sc=>by
  have h:=Xa6 (P:=Tryz.prog) w.drew 33 33 ty 26 7 g ((i+1)*7) (l.length-i) dc ⟨g,i*7,none⟩ (l.length+1-i) sc cur 26 (xs.drop (i*7)) Tryz.underlying33 hsz hg (by rw [List.length_drop];simp only [Nat.min_def];split<;>omega)
   (fun j u hj=>by
     rw [Addr.add_lit]
     rw [List.getElem?_drop,←htk',List.getElem?_take] at hj
     split at hj
     ·rw [World.cell?_drew,cell_of_row w g _ cur _ _ hg,←Array.getElem?_toList];exact hj
     ·cases hj) (by rw [List.length_drop];omega) (fun u hu=>hL.oneCell u (List.mem_of_mem_drop hu))
  rw [h,show Nat.min (l.length+1-i) (l.length-i)=l.length-i by simp only [Nat.min_def];split<;>omega,hcur1]
  rw [show (i+1)*7=i*7+7 by omega]
  rfl
 have hg1:(w.drew.setRow g cur1).heap[g]? =some (.cells cur1 26 (0,0)):=setRow_heap w.drew g cur cur1 _ _ hg
 have hcp2:∀ty dc,(Builtin.copy_ #[33,33] ty #[.slice (some ⟨g,i*7,none⟩) (l.length+1-i) dc,.slice (some ⟨vb,0,none⟩) 1 1]).run Tryz.prog (w.drew.setRow g cur1)= .ok (goInt 1) ((w.drew.setRow g cur1).setRow g cur2):=fun ty dc=>by
  have h:=Xa6 (P:=Tryz.prog) (w.drew.setRow g cur1) 33 33 ty 26 7 g (i*7) (l.length+1-i) dc ⟨vb,0,none⟩ 1 1 cur1 26 news Tryz.underlying33 hsz hg1 (by rw [hnl];simp only [Nat.min_def];split<;>omega)
   (fun j u hj=>by
     rw [Addr.add_lit,Nat.zero_add]
     have:(w.drew.setRow g cur1).heap[vb]? =some (.cells news.toArray tb (0,0)):=by rw [setRow_other _ _ _ _ hne];exact hvb
     rw [cell_of_row _ vb j _ _ _ this];simpa using hj) (by omega) hn1
  rw [h,show Nat.min 1 (l.length+1-i)=1 by simp only [Nat.min_def];split<;>omega,hcur2]
  rfl
 have Hlen:=Qh (show (xs.take (i*7)++news++xs.drop (i*7)).length=(l.length+1)*7 by simp;omega)
 have Hsz:=Qh (show cur2.size=cap*7 by omega)
 have Hfin:=Qh hfin
 have HL:=Qh hL
 have Hx:=Qh hx
 have Hg1:=Qh hg1
 have hb1:¬(cap=i+1):=by omega
 have hb2:¬(cap=i):=by omega
 clear hfin hL hx hg1 hcur1 hcur2 hxl hxl' hcs hcs' htk htk' hnl hn1 hvb hcm' hg
 have hw1:IntKind.i64.wrap ((i:Int)+1)=(i:Int)+1:=IntWalk.i64_in _ (by omega)
 have hw2:0≤(i:Int)+1:=by omega
 have hw3:((i:Int)+1).toNat=i+1:=by omega
 have hw4:i≤l.length:=by omega
 have hw5:(i:Int)≤(l.length:Int)+1:=by omega
 go_enter Tryz.func86,Tryz.ntmps86
 go_wp2_with (simp only [hov])
 go_region_law (refine step_copy_runI rfl _ _ 33 33 rfl _ _ (by simp [Act.eval,Act.put]) (by simp [Act.eval,Act.put]) (hcp1 _ _ _) ?_)
 go_wp2_with (at_builtin;refine wpList_copy_runI _ rfl _ _ 33 33 rfl _ _ rfl rfl (hcp2 _ _) ?_)
 go_ret
 have hln:(l.take i++x::l.drop i).length=l.length+1:=by simp;omega
 refine ⟨_,rfl,?_,?_⟩
 ·unfold OwnS
  rw [hln]
  refine ⟨xs.take (i*7)++news++xs.drop (i*7),⟨Hlen.out,.inr ⟨g,cap,cur2,rfl,hBg,setRow_heap _ g cur1 cur2 _ _ Hg1.out,by omega,by unfold maxLen;omega,Hsz.out,Hfin.out⟩⟩,?_⟩
  have:=((HL.out.take i).append (LiesL.one Hx.out)).append (HL.out.drop i)
  rwa [show l.take i++ [x]++l.drop i=l.take i++x::l.drop i by simp] at this
 ·have h0:w.grownBy w.drew (some g):=⟨rfl,rfl,rfl,Qn _,fun _ _ _=>rfl⟩
  exact Xbn (Xbn h0 Xat) Xat
set_option maxRecDepth 100000 in
set_option maxHeartbeats 4000000 in
theorem Xh8 (I:IH) (B g cap i:Nat) (l:List _) (x:_) (vb:Nat) (tb:TypeId) (news:List Value) (w:World) (hv:OwnS tEnt 26 I w B (.slice (some ⟨g,0,none⟩) l.length cap) l) (hx:tEnt.rd I news x)
 (hvb:w.heap[vb]? =some (.cells news.toArray tb (0,0))) (hi:i<l.length) (hroom:cap<l.length+1) (hbig:(l.length+1)*112≤140737488355328) (hB:B≤w.heap.size):
 Calls Tryz.prog 86 #[.slice (some ⟨g,0,none⟩) l.length cap,.int .i64 i,.slice (some ⟨vb,0,none⟩) 1 1] w fun e w'=> ∃v',e= .returned v'∧OwnS tEnt 26 I w' B v' (l.take i++x::l.drop i)∧w.grownBy w' (some g):=by
 obtain ⟨i0,hif,hz0,hz1,hz2⟩:=info_parts Xbi
 obtain ⟨xs,⟨hxl,hown⟩,hL⟩:=hv
 rcases hown with ⟨h0,_⟩|⟨g',cap',cur,h1,hBg,hg,hnc,hcm',hcs,htk⟩
 ·cases h0
 injection h1 with h1a h1b h1c
 injection h1a with h1a
 injection h1a with h1a
 subst h1a h1c
 have hsz:(Tryz.prog.info? 26).map (·.size)=some 7:=by rw [hif];simp [hz1]
 have hnl:news.length=7:=tEnt.len hx
 have hn1:=tEnt.one hx
 have hxl':xs.length=l.length*7:=hxl
 have hcs':cur.size=cap*7:=hcs
 have htk':cur.toList.take xs.length=xs:=by rw [hxl];exact htk
 have hgw:g<w.heap.size:=(Array.getElem?_eq_some_iff.1 hg).1
 have hvw:vb<w.heap.size:=(Array.getElem?_eq_some_iff.1 hvb).1
 have hxcell:∀(j:Nat) u,xs[j]? =some u→w.cell? ⟨g,j,none⟩=some u:=fun j u hj=>by
  rw [←htk',List.getElem?_take] at hj
  split at hj
  ·rw [cell_of_row w g _ cur _ _ hg,←Array.getElem?_toList];exact hj
  ·cases hj
 have hold:(Builtin.firstCells i0.size i (.slice (some ⟨g,0,none⟩) i cap)).run Tryz.prog w.drew= .ok (xs.take (i*7)).toArray w.drew:=
  run_firstCells_some w.drew i0.size i ⟨g,0,none⟩ i cap (xs.take (i*7)) (by rw [hz1,List.length_take];omega) (fun j u hj=>by
   rw [Addr.add_lit,Nat.zero_add]
   rw [List.getElem?_take] at hj
   split at hj
   ·exact hxcell j u hj
   ·cases hj)
 obtain ⟨G,hG⟩:∃G,G=grownCap w (l.length+1) cap 26:=⟨_,rfl⟩
 have hGn:l.length+1≤G:=by rw [hG];exact grownCap_ge w _ _ _
 have hG63:G≤9223372036854775807:=by
  have:=grownCap_le_maxLen w (l.length+1) cap 26 (by unfold maxLen;omega)
  rw [←hG] at this
  unfold maxLen at this
  omega
 obtain ⟨z,hz⟩:∃z,i0.zero=some z:=⟨_,hz0⟩
 have hzs:z.cells.size=7:=by rw [hz] at hz0;cases hz0;rfl
 obtain ⟨ROW,hROW⟩:∃ROW:Array Value,ROW=(xs.take (i*7)).toArray++Builtin.zeroCells z.cells (l.length+1-i)++Builtin.zeroCells z.cells (G-(l.length+1)):=⟨_,rfl⟩
 have hRs:ROW.size=G*7:=by
  rw [hROW,Array.size_append,Array.size_append,size_zeroCells,size_zeroCells,hzs]
  simp
  omega
 have hRt:ROW.toList.take (i*7)=xs.take (i*7):=by
  rw [hROW,Array.toList_append,Array.toList_append,List.append_assoc,List.take_append_of_le_length (by simp;omega),List.take_of_length_le (by simp;omega)]
 have hrz:∀ty,(Builtin.append_ #[33,3] ty #[.slice (some ⟨g,0,none⟩) i cap,.int .i64 ((l.length:Int)+1-(i:Int))]).run Tryz.prog w=
  .ok (.slice (some ⟨w.heap.size,0,none⟩) (l.length+1) G) (w.drew.alloc (.cells ROW 26)):=fun ty=>by
  have h:=Lib.run_append_grow_zeros w 33 3 ty 26 i0 z .i64 .i64 Tryz.underlying33 Tryz.underlying3 hif hz (some ⟨g,0,none⟩) i cap (xs.take (i*7)) hold (l.length+1-i) (by omega) (by rw [hz1];omega) (by omega) (by omega) (by rw [hz2];omega) (by rw [hz2,show i+(l.length+1-i)=l.length+1 by omega];exact growslice_fits hroom hbig)
  rw [show i+(l.length+1-i)=l.length+1 by omega,←hG,←hROW] at h
  rw [show (l.length:Int)+1-(i:Int)=((l.length+1-i:Nat):Int) by omega]
  exact h
 obtain ⟨row2,hrow2⟩:∃c,c=over ROW (i*7) news:=⟨_,rfl⟩
 have hs2:row2.size=ROW.size:=by rw [hrow2];exact Xa4 _ _ _ (by omega)
 obtain ⟨row3,hrow3⟩:∃c,c=over row2 (i*7+7) (xs.drop (i*7)):=⟨_,rfl⟩
 have hs3:row3.size=row2.size:=by rw [hrow3];exact Xa4 _ _ _ (by rw [List.length_drop];omega)
 have hfin:row3.toList.take ((l.length+1)*7)=xs.take (i*7)++news++xs.drop (i*7):=by
  have:=Xh0 ROW xs news (i*7) 7 (by omega) hRt hnl (by omega)
  rw [←hrow2,←hrow3] at this
  rw [show (l.length+1)*7=xs.length+7 by omega]
  exact this
 obtain ⟨W1,hW1⟩:∃W1,W1=w.drew.alloc (.cells ROW 26):=⟨_,rfl⟩
 have hN1:W1.heap[w.heap.size]? =some (.cells ROW 26 (0,0)):=by rw [hW1];exact heap_alloc_new w.drew _
 have ho1:∀b,b<w.heap.size→W1.heap[b]? =w.heap[b]? :=fun b hb=>by rw [hW1];exact Below.heap_alloc w.drew _ b hb
 rw [←hW1] at hrz
 have hcpA:∀ty dc,(Builtin.copy_ #[33,33] ty #[.slice (some ⟨w.heap.size,i*7,none⟩) (l.length+1-i) dc,.slice (some ⟨vb,0,none⟩) 1 1]).run Tryz.prog W1= .ok (goInt 1) (W1.setRow w.heap.size row2):=fun ty dc=>by
  have h:=Xa6 (P:=Tryz.prog) W1 33 33 ty 26 7 w.heap.size (i*7) (l.length+1-i) dc ⟨vb,0,none⟩ 1 1 ROW 26 news Tryz.underlying33 hsz hN1 (by rw [hnl];simp only [Nat.min_def];split<;>omega)
   (fun j u hj=>by
     rw [Addr.add_lit,Nat.zero_add,cell_of_row _ vb j _ _ _ ((ho1 vb hvw).trans hvb)];simpa using hj) (by omega) hn1
  rw [h,show Nat.min 1 (l.length+1-i)=1 by simp only [Nat.min_def];split<;>omega,hrow2]
  rfl
 have hN2:(W1.setRow w.heap.size row2).heap[w.heap.size]? =some (.cells row2 26 (0,0)):=setRow_heap W1 w.heap.size ROW row2 _ _ hN1
 have hcpB:∀ty dc sc,(Builtin.copy_ #[33,33] ty #[.slice (some ⟨w.heap.size,(i+1)*7,none⟩) (l.length-i) dc,.slice (some ⟨g,i*7,none⟩) (l.length-i) sc]).run Tryz.prog (W1.setRow w.heap.size row2).drew= .ok (goInt ((l.length-i:Nat):Int)) ((W1.setRow w.heap.size row2).drew.setRow w.heap.size row3):=fun ty dc sc=>by
  have h:=Xa6 (P:=Tryz.prog) (W1.setRow w.heap.size row2).drew 33 33 ty 26 7 w.heap.size ((i+1)*7) (l.length-i) dc ⟨g,i*7,none⟩ (l.length-i) sc row2 26 (xs.drop (i*7)) Tryz.underlying33 hsz hN2 (by rw [List.length_drop];simp only [Nat.min_def];split<;>omega)
   (fun j u hj=>by
     rw [Addr.add_lit]
     rw [List.getElem?_drop] at hj
     have hgg:(W1.setRow w.heap.size row2).heap[g]? =some (.cells cur 26 (0,0)):=by rw [setRow_other _ _ _ _ (by omega),ho1 g hgw];exact hg
     rw [World.cell?_drew,cell_of_row _ g _ cur _ _ hgg,←cell_of_row w g _ cur _ _ hg]
     exact hxcell _ u hj) (by rw [List.length_drop];omega) (fun u hu=>hL.oneCell u (List.mem_of_mem_drop hu))
  rw [h,show Nat.min (l.length-i) (l.length-i)=l.length-i by simp only [Nat.min_def];split<;>omega,hrow3]
  rw [show (i+1)*7=i*7+7 by omega]
  rfl
 have Hlen:=Qh (show (xs.take (i*7)++news++xs.drop (i*7)).length=(l.length+1)*7 by simp;omega)
 have Hsz:=Qh (show row3.size=G*7 by omega)
 have Hfin:=Qh hfin
 have HL:=Qh hL
 have Hx:=Qh hx
 have HN2:=Qh hN2
 have HW1:=Qh hW1
 have hb1:¬(G=i+1):=by omega
 have hb2:¬(G=i):=by omega
 have hb3:¬(cap=i):=by omega
 clear hfin hL hx hN2 hN1 hrow2 hrow3 hROW hRs hRt hxl hxl' hcs hcs' htk htk' hnl hn1 hvb hcm' hg hold hxcell ho1 hW1 hG hz hz0 hzs hs2 hs3
 have hw1:IntKind.i64.wrap ((i:Int)+1)=(i:Int)+1:=IntWalk.i64_in _ (by omega)
 have hw2:0≤(i:Int)+1:=by omega
 have hw3:((i:Int)+1).toNat=i+1:=by omega
 have hw4:i≤l.length:=by omega
 have hw5:(i:Int)≤(l.length:Int)+1:=by omega
 go_enter Tryz.func86,Tryz.ntmps86
 go_wp2_with (first
  |(at_builtin;refine Lib.wpList_append_run _ rfl _ _ _ _ rfl _ _ rfl rfl _ _ (hrz _) ?_)
  |(at_builtin;refine wpList_copy_runI _ rfl _ _ 33 33 rfl _ _ rfl rfl (hcpA _ _) ?_))
 go_region_law (refine step_copy_runI rfl _ _ 33 33 rfl _ _ (by simp [Act.eval,Act.put]) (by simp [Act.eval,Act.put]) (hcpB _ _ _) ?_)
 go_wp2
 go_ret
 have hln:(l.take i++x::l.drop i).length=l.length+1:=by simp;omega
 refine ⟨_,rfl,?_,?_⟩
 ·unfold OwnS
  rw [hln]
  refine ⟨xs.take (i*7)++news++xs.drop (i*7),⟨Hlen.out,.inr ⟨w.heap.size,G,row3,rfl,hB,setRow_heap _ w.heap.size row2 row3 _ _ HN2.out,hGn,by unfold maxLen;omega,Hsz.out,Hfin.out⟩⟩,?_⟩
  have:=((HL.out.take i).append (LiesL.one Hx.out)).append (HL.out.drop i)
  rwa [show l.take i++ [x]++l.drop i=l.take i++x::l.drop i by simp] at this
 ·rw [HW1.out]
  exact ⟨rfl,rfl,rfl,by simp,fun k hk _=>by
   rw [setRow_other _ _ _ _ (by omega)]
   show ((w.drew.alloc (.cells ROW 26)).setRow w.heap.size row2).heap[k]? =_
   rw [setRow_other _ _ _ _ (by omega)]
   exact Below.heap_alloc w.drew _ k hk⟩
theorem Xqd (I:IH) (B:Nat) (v:Value) (l:List _) (x:_) (vb i:Nat) (tb:TypeId) (news:List Value) (w:World) (hv:OwnS tEnt 26 I w B v l) (hx:tEnt.rd I news x)
 (hvb:w.heap[vb]? =some (.cells news.toArray tb (0,0))) (hne:v.ownBlock≠some vb) (hi:i≤l.length) (hbig:(l.length+1)*112≤140737488355328) (hB:B≤w.heap.size):
 Calls Tryz.prog 86 #[v,.int .i64 i,.slice (some ⟨vb,0,none⟩) 1 1] w fun e w'=> ∃v',e= .returned v'∧OwnS tEnt 26 I w' B v' (l.take i++x::l.drop i)∧w.grownBy w' v.ownBlock:=by
 by_cases he:i=l.length
 ·subst he
  rw [List.take_length,List.drop_length]
  exact Xiv I B v l x vb news w hv hx (fun j u hj=>by rw [cell_of_row w vb j _ _ _ hvb];simpa using hj) hbig hB
 ·have hcase:∃g cap,v= .slice (some ⟨g,0,none⟩) l.length cap∧cap≤maxLen:=by
   obtain ⟨xs,⟨_,hown⟩,_⟩:=hv
   rcases hown with ⟨_,h⟩|⟨g,cap,cur,h1,_,_,_,h3,_⟩
   ·omega
   ·exact ⟨g,cap,h1,h3⟩
  obtain ⟨g,cap,rfl,hcm⟩:=hcase
  by_cases hr:l.length+1≤cap
  ·exact Xgv I B g cap i l x vb tb news w hv hx hvb (fun e=>hne (by rw [e];rfl)) (by omega) hr (by unfold maxLen at hcm;omega)
  ·exact Xh8 I B g cap i l x vb tb news w hv hx hvb (by omega) (by omega) hbig hB
theorem Xmx {P:Program} (w:World) (t e ty:TypeId) (z:Value) (ht:P.underlying t=some (.slice e)) (hv:∀w,(zeroValue e).run P w= .ok z w) (g o n c:Nat) (h1:∀u∈(Builtin.zeroCells z.cells n).toList,u.oneCell'=true) (hn:0<n) (cur:Array Value) (tt:TypeId)
 (hg:w.heap[g]? =some (.cells cur tt (0,0))) (hfit:o+n*z.cells.size≤cur.size):
 (Builtin.clear_ #[t] ty #[.slice (some ⟨g,o,none⟩) n c]).run P w= .ok (.tuple #[]) (w.setRow g (cur.toList.take o++(Builtin.zeroCells z.cells n).toList++cur.toList.drop (o+n*z.cells.size)).toArray):=by
 have hl:(Builtin.zeroCells z.cells n).toList.length=n*z.cells.size:=by rw [Array.length_toList,size_zeroCells]
 have hst:=run_storeCells_at (P:=P) g o tt (Builtin.zeroCells z.cells n).toList 0 cur w hg (by rw [hl];omega) h1
 rw [hl] at hst
 simp only [Nat.add_zero] at hst
 obtain ⟨m,rfl⟩:∃m,n=m+1:=⟨n-1,by omega⟩
 simp [Builtin.clear_,run_underlying ht,hv,hst]
theorem Xbw {P:Program} {ops:Array Oper} {rest:List Oper} {op:Oper} {a:Act} {w:World} {Q:Exit→Act→World→Prop} (hgd:op.guard=none) (ty:TypeId) (x y:Operand) (ho:op.op= .store ty x y)
 (g o:Nat) (cs:List Value) (hx:a.eval x= .pointer (some ⟨g,o,none⟩)) (hy:a.eval y= .agg cs.toArray) (cur:Array Value) (tt:TypeId)
 (hg:w.heap[g]? =some (.cells cur tt (0,0))) (hfit:o+cs.length≤cur.size) (hi:(P.info? ty).map (·.size)=some cs.length) (h1:∀v∈cs,v.oneCell'=true)
 (h:wpList P ops Q rest (a.put op.dst undef) (w.setRow g (over cur o cs))):wpList P ops Q (op::rest) a w:=by
 refine wpList_plain hgd fun _ hK=> ?_
 have hst:=run_storeCells_at (P:=P) g o tt cs 0 cur w hg (by simpa using hfit) h1
 have hsv:(storeVar ty ⟨g,o,none⟩ (.agg cs.toArray)).run P w= .ok () (w.setRow g (over cur o cs)):=by
  cases hq:P.info? ty with
  |none=>simp [hq] at hi
  |some i=>
   have hs:cs.length=i.size:=by simp [hq] at hi;omega
   simp only [Nat.add_zero] at hst
   simp [storeVar,sizeOf,typeInfo,hq,Value.cells,hs,hst,over]
 unfold Oper.wp execOp
 simp only [ho,hx,hy,Instr.storeAt,Instr.sureAddr,Sem.run_bind,Sem.run_pure,Result.andThen_ok,hsv]
 exact hK _ _ h
theorem Xrl (cur:Array Value) (o m:Nat) (cs:List Value) (h:o+cs.length≤m) (ho:o≤cur.size):(over cur o cs).toList.drop m=cur.toList.drop m:=by
 simp only [over]
 rw [List.drop_append,List.drop_eq_nil_of_le (by simp;omega),List.nil_append,List.drop_drop]
 congr 1
 simp
 omega
theorem Xd7 {B:Nat} {w w':World} {r:Option Nat} (h:Below B w w') (hB:w.heap.size≤B):w.grownBy w' r:=
 ⟨h.os,h.tape,h.output,h.size,fun k hk _=>h.block k (by omega)⟩
structure DelE (I:IH) (gb:Nat) (cur:Array Value) (w0:World) (F:List Ent) (j:Nat) (X:World):Prop where
 row_:∃arr,X.heap[gb]? =some (.cells arr 26 (0,0))∧arr.size=cur.size∧LiesL tEnt I (arr.toList.take (F.length*7)) F∧arr.toList.drop (j*7)=cur.toList.drop (j*7)
 grown:w0.grownBy X (some gb)
section
variable {I:IH} {gb j:Nat} {cur:Array Value} {w0 X X':World} {F:List Ent}
theorem DelE.pass (h:DelE I gb cur w0 F j X) (hb:Below X.heap.size X X'):DelE I gb cur w0 F j X':=by
 obtain ⟨arr,h1,h2⟩:=h.row_
 have hlt:gb<X.heap.size:=(Array.getElem?_eq_some_iff.1 h1).1
 refine ⟨⟨arr,(hb.block _ hlt).trans h1,h2⟩,?_⟩
 exact ⟨hb.os.trans h.grown.os,hb.tape.trans h.grown.tape,hb.output.trans h.grown.output,Nat.le_trans h.grown.size hb.size,fun k hk hne=>(hb.block k (Nat.lt_of_lt_of_le hk h.grown.size)).trans (h.grown.block k hk hne)⟩
theorem DelE.next (h:DelE I gb cur w0 F j X):DelE I gb cur w0 F (j+1) X:=by
 obtain ⟨arr,h1,h2,h3,h4⟩:=h.row_
 refine ⟨⟨arr,h1,h2,h3,?_⟩,h.grown⟩
 rw [show (j+1)*7=j*7+7 by omega,←List.drop_drop,h4,List.drop_drop]
theorem DelE.put {arr:Array Value} (h:DelE I gb cur w0 F j X) (h1:X.heap[gb]? =some (.cells arr 26 (0,0))) (x:Ent) (cs:List Value) (hcs:tEnt.rd I cs x) (hF:F.length≤j) (hj:j*7+7≤cur.size):
 DelE I gb cur w0 (F++ [x]) (j+1) (X.setRow gb (over arr (F.length*7) cs)):=by
 obtain ⟨arr',h1',h2,h3,h4⟩:=h.row_
 rw [h1] at h1'
 cases h1'
 have hcl:cs.length=7:=tEnt.len hcs
 refine ⟨⟨_,setRow_heap _ _ _ _ _ _ h1,by rw [Xa4 _ _ _ (by omega),h2],?_,?_⟩,Xbn h.grown Xat⟩
 ·rw [List.length_append,List.length_singleton,show (F.length+1)*7=F.length*7+cs.length by omega,Xhv _ _ _ (by omega)]
  exact h3.append (LiesL.one hcs)
 ·rw [Xrl _ _ _ _ (by omega) (by omega),show (j+1)*7=j*7+7 by omega,←List.drop_drop,h4,List.drop_drop]
theorem DelE.cell (h:DelE I gb cur w0 F j X) (q:Nat) (hq:j*7≤q):X.cell? ⟨gb,q,none⟩=cur[q]? :=by
 obtain ⟨arr,h1,h2,h3,h4⟩:=h.row_
 rw [cell_of_row X gb q _ _ _ h1,←Array.getElem?_toList,←Array.getElem?_toList]
 have e1:=congrArg (fun L=>L[q-j*7]?) h4
 simp only [List.getElem?_drop] at e1
 rwa [show j*7+(q-j*7)=q by omega] at e1
end
theorem Xus:∀w,(zeroValue 26).run Tryz.prog w= .ok (.agg zeroRow) w:=Tryz.zeroValue26
theorem Xlx (n:Nat):∀u∈(Builtin.zeroCells (Value.agg zeroRow).cells n).toList,u.oneCell'=true:=by
 intro u hu
 simp only [Builtin.zeroCells,Value.cells] at hu
 rw [Array.mem_toList_iff,Array.mem_map] at hu
 obtain ⟨i,_,rfl⟩:=hu
 have h7:i%zeroRow.size<7:=Nat.mod_lt _ (by decide)
 rcases (show i%zeroRow.size=0∨i%zeroRow.size=1∨i%zeroRow.size=2∨i%zeroRow.size=3∨i%zeroRow.size=4∨i%zeroRow.size=5∨i%zeroRow.size=6 by omega) with h|h|h|h|h|h|h<;>rw [h]<;>rfl
set_option maxRecDepth 100000 in
set_option maxHeartbeats 2000000 in
theorem Xd2 (I:IH) (B:Nat) (v:Value) (l:List Ent) (w:World) (hv:OwnS tEnt 26 I w B v l) (hn:l.length≤1000000) (g:Nat) (cb:Array Value) (p:Ent→Bool) (hw:Ok I w) (hI:∀b,B≤b→I b=none) (_hB:B≤w.heap.size) (eg:∀args w,(callFunc g args).run Tryz.prog w= .ok (.enter g args) w) (hp:PredE g cb l p (fun W=>w.grownBy W v.ownBlock)):
 Calls Tryz.prog 80 #[v,.func (.func g) #[] cb] w fun e w'=> ∃v',e= .returned v'∧OwnS tEnt 26 I w' B v' (l.filter fun x=> !(p x))∧w.grownBy w' v.ownBlock:=by
 obtain ⟨I',hI1,hI2,hI3,hI4⟩:=hv.freeze hw hI
 have hpa:PredE g cb l p (Below w.heap.size w):=fun x hx a1 a2 c1 c2 W hW=>hp x hx a1 a2 c1 c2 W (Xd7 hW (Qn _))
 have hlen:=hI3.len_le
 have Hp:=Qh hp
 have Hix:=Qh (Xes I' v l hI3 g cb p w hI2 eg hpa)
 have Heg:=Qh eg
 have HI3:=Qh hI3
 have Hv:=Qh hv
 clear hp hpa eg hI3
 have hvs:∃ao cap,v= .slice ao l.length cap∧cap≤9223372036854775807:=by
  obtain ⟨ao,cap,e,_,hcm,_⟩:=id HI3.out
  exact ⟨ao,cap,e,by unfold maxLen at hcm;omega⟩
 obtain ⟨ao,cap,rfl,hcm⟩:=hvs
 rcases Xbz l p with ⟨i,hi,e1,e2,e3⟩|⟨e1,e2⟩
 ·have hrow:∃gb cur,ao=some ⟨gb,0,none⟩∧B≤gb∧w.heap[gb]? =some (.cells cur 26 (0,0))∧l.length≤cap∧cur.size=cap*7∧LiesL tEnt I (cur.toList.take (l.length*7)) l:=by
   obtain ⟨xs,⟨_,h1⟩,hL⟩:=Hv.out
   rcases h1 with ⟨_,h0⟩|⟨gb,cap',cur,e,r1,r2,r3,r4,r5,r6⟩
   ·omega
   ·cases e
    refine ⟨gb,cur,rfl,r1,r2,r3,r5,?_⟩
    have r6':cur.toList.take (l.length*7)=xs:=r6
    rw [r6'];exact hL
  obtain ⟨gb,cur,rfl,hBg,hcur,hlc,hcs,hL⟩:=hrow
  rw [e1] at Hix
  have hd1:((i:Int)== -1)=false:=by rw [beq_eq_false_iff_ne];omega
  have hF0:((l.take (i+1)).filter fun x=> !(p x))=l.take i:=by
   rw [List.take_succ_eq_append_getElem hi,List.filter_append]
   have:((l.take i).filter fun x=> !(p x))=l.take i:=List.filter_eq_self.2 fun x hx=>by
    cases hpx:p x with
    |false=>rfl
    |true=>rw [List.any_eq_true.2 ⟨x,hx,hpx⟩] at e3;exact absurd e3 (by simp)
   rw [this];simp [e2]
  have hcell:∀j (h:j<l.length),∃a1 a2 c1 c2,RdS tAt I (.slice a1 l[j].attrs.length c1) l[j].attrs∧RdS tXt I (.slice a2 l[j].exts.length c2) l[j].exts∧ ∀q u,(entCs l[j] (.slice a1 l[j].attrs.length c1) (.slice a2 l[j].exts.length c2))[q]? =some u→cur[j*7+q]? =some u:=by
   intro j hj
   obtain ⟨cs,⟨va,vx,hcs,h1,h2⟩,hc⟩:=hL.2 j hj
   obtain ⟨a1,c1,rfl,_,_,_⟩:=id h1
   obtain ⟨a2,c2,rfl,_,_,_⟩:=id h2
   refine ⟨a1,a2,c1,c2,h1,h2,fun q u hu=> ?_⟩
   have h3:=hc q u (by rw [hcs];exact hu)
   have hs:tEnt.size=7:=rfl
   rw [hs,List.getElem?_take] at h3
   split at h3
   ·rw [←Array.getElem?_toList];exact h3
   ·cases h3
  have Hcell:=Qh hcell
  have hm0:∀X,Below w.heap.size w X→DelE I gb cur w ((l.take (i+1)).filter fun x=> !(p x)) (i+1) X:=by
   intro X hX
   have hlt:gb<w.heap.size:=(Array.getElem?_eq_some_iff.1 hcur).1
   refine ⟨⟨cur,(hX.block _ hlt).trans hcur,rfl,?_,rfl⟩,Xd7 hX (Qn _)⟩
   rw [hF0,List.length_take,Nat.min_eq_left (by omega)]
   have:=hL.take i
   have hs:tEnt.size=7:=rfl
   rwa [hs,List.take_take,Nat.min_eq_left (by omega)] at this
  have Hm0:=Qh hm0
  have hFl:((l.take (i+1)).filter fun x=> !(p x)).length=i:=by rw [hF0,List.length_take];omega
  have HFl:=Qh hFl
  have hi7:(Tryz.prog.info? 26).map (·.size)=some 7:=by kernel_rfl
  have Hi7:=Qh hi7
  clear e1 e2 e3 hF0 hcell hm0 hFl hL hcur hI4 hv hi7
  go_enter Tryz.func80,Tryz.ntmps80
  go_wp2_with fail
  refine Hix.out.mono ?_
  rintro e w1 ⟨rfl,hb1⟩
  have Hm1:=Qh (Hm0.out w1 hb1)
  clear hb1 Hm0
  go_wp2_with fail
  go_loopw [5,6] (fun s5 s6 X=> ∃(j:Nat) (F:List Ent),i+1≤j∧j≤l.length∧s6= .int .i64 j∧s5= .int .i64 F.length∧F.length<j∧F=((l.take j).filter fun x=> !(p x))∧DelE I gb cur w F j X) (fun _ j _=>l.length-(intOf j).toNat)
  case atStart=>exact ⟨i+1,_,Qn _,hi,by go_num,by rw [HFl.out],by rw [HFl.out];omega,rfl,Hm1.out⟩
  case round=>
   clear Hm1 HFl
   obtain ⟨j,F,hij,hjl,rfl,rfl,hFj,hF,hm⟩:=hrel
   have HF:=Qh hF
   have Hm:=Qh hm
   clear hF hm
   by_cases hlt:j<l.length
   ·obtain ⟨a1,a2,c1,c2,h1,h2,hc⟩:=Hcell.out j hlt
    obtain ⟨x,hlx⟩:∃x,l[j]=x:=⟨_,rfl⟩
    have hxm:x∈l:=by rw [←hlx];exact List.getElem_mem hlt
    rw [hlx] at h1 h2 hc
    have hc0:=(Hm.out.cell (j*7) (Qn _)).trans (hc 0 _ rfl)
    have hc1:=(Hm.out.cell (j*7+1) (by omega)).trans (hc 1 _ rfl)
    have hc2:=(Hm.out.cell (j*7+2) (by omega)).trans (hc 2 _ rfl)
    have hc3:=(Hm.out.cell (j*7+3) (by omega)).trans (hc 3 _ rfl)
    have hc4:=(Hm.out.cell (j*7+4) (by omega)).trans (hc 4 _ rfl)
    have hc5:=(Hm.out.cell (j*7+5) (by omega)).trans (hc 5 _ rfl)
    have hc6:=(Hm.out.cell (j*7+6) (by omega)).trans (hc 6 _ rfl)
    have H12:=Qh (show tEnt.rd I (entCs x (.slice a1 x.attrs.length c1) (.slice a2 x.exts.length c2)) x from ⟨_,_,rfl,h1,h2⟩)
    have Hst:=Qh (show ((l.take (j+1)).filter fun x=> !(p x))=F++(if p x then [] else [x]) by
     rw [List.take_succ_eq_append_getElem hlt,hlx,List.filter_append,←HF.out];cases h:p x<;>simp [h])
    have Hcall:=Qh (Hp.out x hxm a1 a2 c1 c2)
    clear hlx hc hxm h1 h2
    have eg:=Heg.out
    go_wp2_with fail
    have hmA:=Hm.out.pass ((Qb _ wr).alloc (Qn _) (.cells #[.int .i64 x.kind,S x.path,.slice a1 x.attrs.length c1,S x.target,.int .i64 x.size,S x.digest,.slice a2 x.exts.length c2] 26))
    refine (Hcall.out _ hmA.grown).mono ?_
    rintro e w4 ⟨rfl,hb4⟩
    obtain ⟨d0,d1,d2,d3,d4,d5,d6⟩:=entB rfl hb4
    have Hm4:=Qh (hmA.pass hb4)
    have hsz4:gb<w4.heap.size:=by
     obtain ⟨arr,h1,_⟩:=Hm4.out.row_
     exact (Array.getElem?_eq_some_iff.1 h1).1
    clear hmA hb4 hc0 hc1 hc2 hc3 hc4 hc5 hc6 eg
    cases hpx:p x
    ·have Hnx:=Qh (show F++ [x]=((l.take (j+1)).filter fun x=> !(p x)) by rw [Hst.out,hpx];simp)
     obtain ⟨arr,ha1,ha2,_⟩:=Hm4.out.row_
     have Ha1:=Qh ha1
     have hfit:F.length*7+7≤arr.size:=by omega
     have hFl:F.length<l.length:=by omega
     clear hpx ha1 ha2
     go_wp2_with (refine Xbw rfl 26 _ _ rfl gb (F.length*7) (entCs x (.slice a1 x.attrs.length c1) (.slice a2 x.exts.length c2)) (by simp [Act.eval]) rfl arr 26 Ha1.out hfit Hi7.out (tEnt.one H12.out) ?_)
     go_roundw
     case rel=>exact ⟨j+1,F++ [x],by omega,by omega,by go_num,(by rw [List.length_append,List.length_singleton];go_num),(by rw [List.length_append,List.length_singleton];omega),Hnx.out,Hm4.out.put Ha1.out x _ H12.out (by omega) (by omega)⟩
     case measure=>simp [intOf];omega
    ·have Hnx:=Qh (show F=((l.take (j+1)).filter fun x=> !(p x)) by rw [Hst.out,hpx];simp)
     clear hpx
     go_wp2
     go_roundw
     case rel=>exact ⟨j+1,F,by omega,by omega,by go_num,rfl,by omega,Hnx.out,Hm4.out.next⟩
     case measure=>simp [intOf];omega
   ·have hje:j=l.length:=by omega
    have HF2:=Qh (show F=l.filter fun x=> !(p x) by rw [HF.out,List.take_of_length_le (by omega)])
    obtain ⟨arr,ha1,ha2,ha3,ha4⟩:=Hm.out.row_
    have hFlen:F.length<l.length:=by omega
    have hnc:¬F.length=cap:=by omega
    have hcl:=fun ty=>Xmx (P:=Tryz.prog) wr 33 26 ty _ Tryz.underlying33 Xus gb (F.length*7) (l.length-F.length) (cap-F.length) (Xlx _) (by omega) arr 26 ha1 (by show F.length*7+(l.length-F.length)*7≤arr.size;omega)
    have Harr:=Qh (show arr.size=cur.size∧LiesL tEnt I (arr.toList.take (F.length*7)) F from ⟨ha2,ha3⟩)
    have Ha1:=Qh ha1
    have hgr:=Hm.out.grown
    clear ha1 ha2 ha3 ha4 hje
    go_wp2_with fail
    go_ret
    have hzl:(Builtin.zeroCells zeroRow (l.length-F.length)).toList.length=(l.length-F.length)*7:=by rw [Array.length_toList,size_zeroCells];rfl
    obtain ⟨ha2,ha3⟩:=Harr.out
    have hal:arr.toList.length=cap*7:=by rw [Array.length_toList,ha2,hcs]
    rw [←HF2.out]
    refine ⟨_,rfl,⟨_,⟨ha3.1,.inr ⟨gb,cap,_,rfl,hBg,setRow_heap _ _ _ _ _ _ Ha1.out,by omega,by unfold maxLen;omega,?_,?_⟩⟩,ha3⟩,Xbn hgr Xat⟩
    ·rw [List.size_toArray,List.length_append,List.length_append,hzl,List.length_take,List.length_drop,hal]
     show min (F.length*7) (cap*7)+((l.length-F.length)*7+(cap*7-(F.length*7+(l.length-F.length)*7)))=cap*7
     omega
    ·show ((arr.toList.take (F.length*7)++_).toArray).toList.take (F.length*7)=arr.toList.take (F.length*7)
     rw [List.toList_toArray,List.take_append_of_le_length (by rw [List.length_take,hal];omega),List.take_take,Nat.min_self]
 ·rw [e1] at Hix
  have Hf:=Qh (show (l.filter fun x=> !(p x))=l from List.filter_eq_self.2 fun x hx=>by
   cases hpx:p x with
   |false=>rfl
   |true=>rw [List.any_eq_true.2 ⟨x,hx,hpx⟩] at e2;exact absurd e2 (by simp))
  clear e1 e2 hv hI4
  go_enter Tryz.func80,Tryz.ntmps80
  go_wp2_with fail
  refine Hix.out.mono ?_
  rintro e w1 ⟨rfl,hb1⟩
  go_wp2
  go_ret
  exact ⟨_,rfl,by rw [Hf.out];exact Hv.out.below hb1,Xd7 hb1 (Qn _)⟩
def remB (e:Ent) (x:Ent):Bool:=decide (e.kind=4)&&under x.path e.path
set_option maxRecDepth 100000 in
set_option maxHeartbeats 400000 in
theorem Xl1 (I:IH) (hI:Glob I) (e:Ent) (hel:e.path.length≤4294967280) (be:Nat) (ve vy:Value) (l:List Ent) (hl:SmlT l) (C:World→Prop) (hC:∀W,C W→Ok I W∧EntB W be e ve vy):
 PredE 78 #[.pointer (some ⟨be,0,none⟩)] l (remB e) C:=by
 intro x hx a1 a2 c1 c2 W hW
 obtain ⟨hok,hB⟩:=hC W hW
 have Hu:=Qh (fun w hw=>Xj1 I hI x.path e.path (hl x hx).1 hel w hw)
 obtain ⟨c0,d1,d2,d3,d4,d5,d6⟩:=EntB.past hB (.cells #[.int .i64 x.kind,S x.path,.slice a1 x.attrs.length c1,S x.target,.int .i64 x.size,S x.digest,.slice a2 x.exts.length c2] 26)
 clear hB hC d2 d3 d4 d5 d6
 by_cases hk:e.kind=4
 ·have k1:((e.kind:Int)==4)=true:=by simpa using hk
  have Hn:=Qh (show remB e x=under x.path e.path by rw [remB,Qt hk];rfl)
  clear hk
  go_enter Tryz.func78,Tryz.ntmps78
  go_wp2_with fail
  refine (Hu.out _ (hok.alloc _)).mono ?_
  rintro e w1 ⟨rfl,hb1⟩
  go_wp2
  go_ret
  exact ⟨Xan Hn.out.symm,((Qb _ _).alloc (Qn _) _).trans (hb1.mono (by simp))⟩
 ·have k1:((e.kind:Int)==4)=false:=by simpa using hk
  have Hn:=Qh (show remB e x=false by rw [remB,Qf hk];rfl)
  clear hk
  go_enter Tryz.func78,Tryz.ntmps78
  go_wp2
  go_ret
  exact ⟨Xan Hn.out.symm,(Qb _ _).alloc (Qn _) _⟩
set_option maxRecDepth 100000 in
theorem Xl0 (I:IH) (hI:Glob I) (x:Ent) (hx:x.path.length≤4294967280) (a1 a2:Option Addr) (c1 c2:Nat) (p:Bytes) (hp:p.length≤4294967280) (W:World) (hW:Ok I W):
 Calls Tryz.prog 85 #[entV x (.slice a1 x.attrs.length c1) (.slice a2 x.exts.length c2),S p] W fun e w'=>e= .returned (.int .i64 (cmpP x.path p))∧Below W.heap.size W w':=by
 have Hc:=Qh (fun w hw=>Xfy I hI x.path p hx hp w hw)
 go_enter Tryz.func85,Tryz.ntmps85
 go_wp2_with fail
 refine (Hc.out _ (hW.alloc _)).mono ?_
 rintro e w1 ⟨rfl,hb1⟩
 go_wp2
 go_ret
 exact ⟨rfl,((Qb _ _).alloc (Qn _) _).trans (hb1.mono (by simp))⟩
def RetB (w:World) (n:Nat) (e:Ending) (w':World):Prop:= ∃b:Bool,e= .returned (.tuple #[.int .i64 n,.bool b])∧Below w.heap.size w w'
set_option maxRecDepth 100000 in
set_option maxHeartbeats 1000000 in
theorem Xd3 (I:IH) (hI:Glob I) (v:Value) (l:List Ent) (hv:RdS tEnt I v l) (hn:l.length≤1000000) (hl:SmlT l) (p:Bytes) (hp:p.length≤4294967280) (w:World) (hw:Ok I w):
 Calls Tryz.prog 84 #[v,S p,.func (.func 85) #[] #[]] w (RetB w (bs (notLess l p) 0 l.length)):=by
 obtain ⟨ao,cap,rfl,hcap,hcm,_⟩:=id hv
 have Hv:=Qh hv;clear hv
 have Hl:=Qh hl;clear hl
 have eg:∀args w,(callFunc 85 args).run Tryz.prog w= .ok (.enter 85 args) w:=fun _ _=>by kernel_rfl
 obtain ⟨N,hN⟩:∃N,bs (notLess l p) 0 l.length=N:=⟨_,rfl⟩
 have HN:=Qh hN
 rw [hN]
 clear hN
 go_enter Tryz.func84,Tryz.ntmps84
 go_wp2_with fail
 go_loopw [9,10] (fun s9 s10 wr=> ∃lo hi:Nat,s9= .int .i64 lo∧s10= .int .i64 hi∧lo≤hi∧hi≤l.length∧bs (notLess l p) lo hi=N∧Below w.heap.size w wr) (fun a b _=>(intOf b).toNat-(intOf a).toNat)
 case atStart=>exact ⟨0,l.length,rfl,rfl,Nat.zero_le _,Qn _,HN.out,Qb _ _⟩
 case round=>
  clear HN
  obtain ⟨lo,hi,rfl,rfl,hlh,hil,hr,hb⟩:=hrel
  have Hr:=Qh hr;clear hr
  have hwr:Ok I wr:=hw.below (Qn _) hb
  by_cases hlt:lo<hi
  ·obtain ⟨x,va,vx,b,off,cap',hlx,hvv,⟨c0,c1,c2,c3,c4,c5,c6⟩,h1,h2⟩:=Xbu Hv.out hwr ((lo+hi) / 2) (by omega)
   cases hvv
   obtain ⟨aa,ca,rfl,_,_,_⟩:=id h1
   obtain ⟨ax,cx,rfl,_,_,_⟩:=id h2
   have Hnl:=Qh (show notLess l p ((lo+hi) / 2)= !(ltP (els x.path) (els p)) by rw [notLess,List.getElem?_eq_getElem (by omega),hlx])
   have Hc:=Qh (fun W hW=>Xl0 I hI x (Hl.out x (by rw [←hlx];exact List.getElem_mem _)).1 aa ax ca cx p hp W hW)
   have hj:(0:Int)≤((lo:Int)+(hi:Int)) / 2:=by omega
   have hj2:((lo:Int)+(hi:Int)) / 2<(l.length:Int):=by omega
   have hm:(((lo:Int)+(hi:Int)) / 2).toNat=(lo+hi) / 2:=by omega
   have hm2:(((lo+hi) / 2:Nat):Int)=((lo:Int)+(hi:Int)) / 2:=by omega
   have Hm2:=Qh hm2
   clear hlx h1 h2 hm2
   cases hlp:ltP (els x.path) (els p)
   ·have Hnx:=Qh (show bs (notLess l p) lo ((lo+hi) / 2)=N by rw [←Hr.out];conv=>rhs;rw [bs];rw [dif_pos hlt,Hnl.out,hlp];simp)
    rcases Xpf hlp with hc|hc
    all_goals
     rw [hc] at Hc
     clear hc hlp
     go_wp2_with fail
     refine (Hc.out _ hwr).mono ?_
     rintro e w1 ⟨rfl,hb1⟩
     go_wp2
     go_roundw
     case rel=>exact ⟨lo,(lo+hi) / 2,rfl,by rw [Hm2.out],by omega,by omega,Hnx.out,hb.trans (hb1.mono hb.size)⟩
     case measure=>simp [intOf];omega
   ·have Hnx:=Qh (show bs (notLess l p) ((lo+hi) / 2+1) hi=N by rw [←Hr.out];conv=>rhs;rw [bs];rw [dif_pos hlt,Hnl.out,hlp];simp)
    rw [Xpe hlp] at Hc
    clear hlp
    go_wp2_with fail
    refine (Hc.out _ hwr).mono ?_
    rintro e w1 ⟨rfl,hb1⟩
    go_wp2
    go_roundw
    case rel=>exact ⟨(lo+hi) / 2+1,hi,(by rw [←Hm2.out];go_num),rfl,by omega,by omega,Hnx.out,hb.trans (hb1.mono hb.size)⟩
    case measure=>simp [intOf];omega
  ·have Hlo:=Qh (show lo=N by rw [←Hr.out,bs,dif_neg hlt])
   by_cases hin:lo<l.length
   ·obtain ⟨x,va,vx,b,off,cap',hlx,hvv,⟨c0,c1,c2,c3,c4,c5,c6⟩,h1,h2⟩:=Xbu Hv.out hwr lo hin
    cases hvv
    obtain ⟨aa,ca,rfl,_,_,_⟩:=id h1
    obtain ⟨ax,cx,rfl,_,_,_⟩:=id h2
    have Hc:=Qh (fun W hW=>Xl0 I hI x (Hl.out x (by rw [←hlx];exact List.getElem_mem _)).1 aa ax ca cx p hp W hW)
    have hd:decide (lo<l.length)=true:=Qt hin
    generalize cmpP x.path p=cc at Hc
    clear hlx h1 h2
    go_wp2_with fail
    refine (Hc.out _ hwr).mono ?_
    rintro e w1 ⟨rfl,hb1⟩
    go_wp2
    go_ret2
    rw [←Hlo.out]
    exact ⟨_,rfl,hb.trans (hb1.mono hb.size)⟩
   ·have hd:decide (lo<l.length)=false:=Qf hin
    go_wp2
    go_ret2
    rw [←Hlo.out]
    exact ⟨_,rfl,hb⟩
end Go.Proofs.YtdodihnehppnmaaGreatDoor
