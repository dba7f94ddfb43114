/-
  Walks and laws that the claim's theorem uses: texts PtD PtE, joined; comments out. Conditions: as each theorem says.
-/
import Derived.Test.YtjdednajelommaaGreatDoorQ08
import Derived.Laws.CopyRow
namespace Go.Proofs.YtjdednajelommaaGreatDoor
open Go.RowKit
theorem Xmj {P:Program} (w:World) (t e ty:TypeId) (z:Value) (ht:P.underlying t=some (.slice e)) (hv:∀w,(zeroValue e).run P w= .ok z w) (g o n c:Nat) (h1:∀u∈(Builtin.zeroCells z.cells n).toList,u.oneCell'=true) (hn:0<n) (cur:Array Value) (tt:TypeId)
 (hg:w.heap[g]? =some (.cells cur tt (0,0))) (hfit:o+n*z.cells.size≤cur.size):
 (Builtin.clear_ #[t] ty #[.slice (some ⟨g,o,none⟩) n c]).run P w= .ok (.tuple #[]) (w.setRow g (cur.toList.take o++(Builtin.zeroCells z.cells n).toList++cur.toList.drop (o+n*z.cells.size)).toArray):=by
 have hl:(Builtin.zeroCells z.cells n).toList.length=n*z.cells.size:=by rw [Array.length_toList,size_zeroCells]
 have hst:=run_storeCells_at (P:=P) g o tt (Builtin.zeroCells z.cells n).toList 0 cur w hg (by rw [hl];omega) h1
 rw [hl] at hst
 simp only [Nat.add_zero] at hst
 obtain ⟨m,rfl⟩:∃m,n=m+1:=⟨n-1,by omega⟩
 simp [Builtin.clear_,run_underlying ht,hv,hst]
theorem Xbz {P:Program} {ops:Array Oper} {rest:List Oper} {op:Oper} {a:Act} {w:World} {Q:Exit→Act→World→Prop} (hgd:op.guard=none) (ty:TypeId) (x y:Operand) (ho:op.op= .store ty x y)
 (g o:Nat) (cs:List Value) (hx:a.eval x= .pointer (some ⟨g,o,none⟩)) (hy:a.eval y= .agg cs.toArray) (cur:Array Value) (tt:TypeId)
 (hg:w.heap[g]? =some (.cells cur tt (0,0))) (hfit:o+cs.length≤cur.size) (hi:(P.info? ty).map (·.size)=some cs.length) (h1:∀v∈cs,v.oneCell'=true)
 (h:wpList P ops Q rest (a.put op.dst undef) (w.setRow g (over cur o cs))):wpList P ops Q (op::rest) a w:=by
 refine wpList_plain hgd fun _ hK=> ?_
 have hst:=run_storeCells_at (P:=P) g o tt cs 0 cur w hg (by simpa using hfit) h1
 have hsv:(storeVar ty ⟨g,o,none⟩ (.agg cs.toArray)).run P w= .ok () (w.setRow g (over cur o cs)):=by
  cases hq:P.info? ty with
  |none=>simp [hq] at hi
  |some i=>
   have hs:cs.length=i.size:=by simp [hq] at hi;omega
   simp only [Nat.add_zero] at hst
   simp [storeVar,sizeOf,typeInfo,hq,Value.cells,hs,hst,over]
 unfold Oper.wp execOp
 simp only [ho,hx,hy,Instr.storeAt,Instr.sureAddr,Sem.run_bind,Sem.run_pure,Result.andThen_ok,hsv]
 exact hK _ _ h
theorem Xq3 (cur:Array Value) (o m:Nat) (cs:List Value) (h:o+cs.length≤m) (ho:o≤cur.size):(over cur o cs).toList.drop m=cur.toList.drop m:=by
 simp only [over]
 rw [List.drop_append,List.drop_eq_nil_of_le (by simp;omega),List.nil_append,List.drop_drop]
 congr 1
 simp
 omega
theorem Xd2 {B:Nat} {w w':World} {r:Option Nat} (h:Below B w w') (hB:w.heap.size≤B):w.grownBy w' r:=
 ⟨h.os,h.tape,h.output,h.size,fun k hk _=>h.block k (by omega)⟩
structure DelE (I:IH) (gb:Nat) (cur:Array Value) (w0:World) (F:List Ent) (j:Nat) (X:World):Prop where
 row_:∃arr,X.heap[gb]? =some (.cells arr 68 (0,0))∧arr.size=cur.size∧LiesL tEnt I (arr.toList.take (F.length*7)) F∧arr.toList.drop (j*7)=cur.toList.drop (j*7)
 grown:w0.grownBy X (some gb)
section
variable {I:IH} {gb j:Nat} {cur:Array Value} {w0 X X':World} {F:List Ent}
theorem DelE.pass (h:DelE I gb cur w0 F j X) (hb:Below X.heap.size X X'):DelE I gb cur w0 F j X':=by
 obtain ⟨arr,h1,h2⟩:=h.row_
 have hlt:gb<X.heap.size:=(Array.getElem?_eq_some_iff.1 h1).1
 refine ⟨⟨arr,(hb.block _ hlt).trans h1,h2⟩,?_⟩
 exact ⟨hb.os.trans h.grown.os,hb.tape.trans h.grown.tape,hb.output.trans h.grown.output,Nat.le_trans h.grown.size hb.size,fun k hk hne=>(hb.block k (Nat.lt_of_lt_of_le hk h.grown.size)).trans (h.grown.block k hk hne)⟩
theorem DelE.next (h:DelE I gb cur w0 F j X):DelE I gb cur w0 F (j+1) X:=by
 obtain ⟨arr,h1,h2,h3,h4⟩:=h.row_
 refine ⟨⟨arr,h1,h2,h3,?_⟩,h.grown⟩
 rw [show (j+1)*7=j*7+7 by omega,←List.drop_drop,h4,List.drop_drop]
theorem DelE.put {arr:Array Value} (h:DelE I gb cur w0 F j X) (h1:X.heap[gb]? =some (.cells arr 68 (0,0))) (x:Ent) (cs:List Value) (hcs:tEnt.rd I cs x) (hF:F.length≤j) (hj:j*7+7≤cur.size):
 DelE I gb cur w0 (F++ [x]) (j+1) (X.setRow gb (over arr (F.length*7) cs)):=by
 obtain ⟨arr',h1',h2,h3,h4⟩:=h.row_
 rw [h1] at h1'
 cases h1'
 have hcl:cs.length=7:=tEnt.len hcs
 refine ⟨⟨_,setRow_heap _ _ _ _ _ _ h1,by rw [Xbg _ _ _ (by omega),h2],?_,?_⟩,Xbs h.grown Xaw⟩
 ·rw [List.length_append,List.length_singleton,show (F.length+1)*7=F.length*7+cs.length by omega,Xg8 _ _ _ (by omega)]
  exact h3.append (LiesL.one hcs)
 ·rw [Xq3 _ _ _ _ (by omega) (by omega),show (j+1)*7=j*7+7 by omega,←List.drop_drop,h4,List.drop_drop]
theorem DelE.cell (h:DelE I gb cur w0 F j X) (q:Nat) (hq:j*7≤q):X.cell? ⟨gb,q,none⟩=cur[q]? :=by
 obtain ⟨arr,h1,h2,h3,h4⟩:=h.row_
 rw [cell_of_row X gb q _ _ _ h1,←Array.getElem?_toList,←Array.getElem?_toList]
 have e1:=congrArg (fun L=>L[q-j*7]?) h4
 simp only [List.getElem?_drop] at e1
 rwa [show j*7+(q-j*7)=q by omega] at e1
end
theorem Xtv:∀w,(zeroValue 68).run Tryz.prog w= .ok (.agg zeroRow) w:=Tryz.zeroValue68
theorem Xlg (n:Nat):∀u∈(Builtin.zeroCells (Value.agg zeroRow).cells n).toList,u.oneCell'=true:=by
 intro u hu
 simp only [Builtin.zeroCells,Value.cells] at hu
 rw [Array.mem_toList_iff,Array.mem_map] at hu
 obtain ⟨i,_,rfl⟩:=hu
 have h7:i%zeroRow.size<7:=Nat.mod_lt _ (by decide)
 rcases (show i%zeroRow.size=0∨i%zeroRow.size=1∨i%zeroRow.size=2∨i%zeroRow.size=3∨i%zeroRow.size=4∨i%zeroRow.size=5∨i%zeroRow.size=6 by omega) with h|h|h|h|h|h|h<;>rw [h]<;>rfl
set_option maxRecDepth 100000 in
set_option maxHeartbeats 2000000 in
theorem Xdz (I:IH) (B:Nat) (v:Value) (l:List Ent) (w:World) (hv:OwnS tEnt 68 I w B v l) (hn:l.length≤1000000) (g:Nat) (cb:Array Value) (p:Ent→Bool) (hw:Ok I w) (hI:∀b,B≤b→I b=none) (_hB:B≤w.heap.size) (eg:∀args w,(callFunc g args).run Tryz.prog w= .ok (.enter g args) w) (hp:PredE g cb l p (fun W=>w.grownBy W v.ownBlock)):
 Calls Tryz.prog 70 #[v,.func (.func g) #[] cb] w fun e w'=> ∃v',e= .returned v'∧OwnS tEnt 68 I w' B v' (l.filter fun x=> !(p x))∧w.grownBy w' v.ownBlock:=by
 obtain ⟨I',hI1,hI2,hI3,hI4⟩:=hv.freeze hw hI
 have hpa:PredE g cb l p (Below w.heap.size w):=fun x hx a1 a2 c1 c2 W hW=>hp x hx a1 a2 c1 c2 W (Xd2 hW (Qn _))
 have hlen:=hI3.len_le
 have Hp:=Qh hp
 have Hix:=Qh (Xem I' v l hI3 g cb p w hI2 eg hpa)
 have Heg:=Qh eg
 have HI3:=Qh hI3
 have Hv:=Qh hv
 clear hp hpa eg hI3
 have hvs:∃ao cap,v= .slice ao l.length cap∧cap≤9223372036854775807:=by
  obtain ⟨ao,cap,e,_,hcm,_⟩:=id HI3.out
  exact ⟨ao,cap,e,by unfold maxLen at hcm;omega⟩
 obtain ⟨ao,cap,rfl,hcm⟩:=hvs
 rcases Xce l p with ⟨i,hi,e1,e2,e3⟩|⟨e1,e2⟩
 ·have hrow:∃gb cur,ao=some ⟨gb,0,none⟩∧B≤gb∧w.heap[gb]? =some (.cells cur 68 (0,0))∧l.length≤cap∧cur.size=cap*7∧LiesL tEnt I (cur.toList.take (l.length*7)) l:=by
   obtain ⟨xs,⟨_,h1⟩,hL⟩:=Hv.out
   rcases h1 with ⟨_,h0⟩|⟨gb,cap',cur,e,r1,r2,r3,r4,r5,r6⟩
   ·omega
   ·cases e
    refine ⟨gb,cur,rfl,r1,r2,r3,r5,?_⟩
    have r6':cur.toList.take (l.length*7)=xs:=r6
    rw [r6'];exact hL
  obtain ⟨gb,cur,rfl,hBg,hcur,hlc,hcs,hL⟩:=hrow
  rw [e1] at Hix
  have hd1:((i:Int)== -1)=false:=by rw [beq_eq_false_iff_ne];omega
  have hF0:((l.take (i+1)).filter fun x=> !(p x))=l.take i:=by
   rw [List.take_succ_eq_append_getElem hi,List.filter_append]
   have:((l.take i).filter fun x=> !(p x))=l.take i:=List.filter_eq_self.2 fun x hx=>by
    cases hpx:p x with
    |false=>rfl
    |true=>rw [List.any_eq_true.2 ⟨x,hx,hpx⟩] at e3;exact absurd e3 (by simp)
   rw [this];simp [e2]
  have hcell:∀j (h:j<l.length),∃a1 a2 c1 c2,RdS tAt I (.slice a1 l[j].attrs.length c1) l[j].attrs∧RdS tXt I (.slice a2 l[j].exts.length c2) l[j].exts∧ ∀q u,(entCs l[j] (.slice a1 l[j].attrs.length c1) (.slice a2 l[j].exts.length c2))[q]? =some u→cur[j*7+q]? =some u:=by
   intro j hj
   obtain ⟨cs,⟨va,vx,hcs,h1,h2⟩,hc⟩:=hL.2 j hj
   obtain ⟨a1,c1,rfl,_,_,_⟩:=id h1
   obtain ⟨a2,c2,rfl,_,_,_⟩:=id h2
   refine ⟨a1,a2,c1,c2,h1,h2,fun q u hu=> ?_⟩
   have h3:=hc q u (by rw [hcs];exact hu)
   have hs:tEnt.size=7:=rfl
   rw [hs,List.getElem?_take] at h3
   split at h3
   ·rw [←Array.getElem?_toList];exact h3
   ·cases h3
  have Hcell:=Qh hcell
  have hm0:∀X,Below w.heap.size w X→DelE I gb cur w ((l.take (i+1)).filter fun x=> !(p x)) (i+1) X:=by
   intro X hX
   have hlt:gb<w.heap.size:=(Array.getElem?_eq_some_iff.1 hcur).1
   refine ⟨⟨cur,(hX.block _ hlt).trans hcur,rfl,?_,rfl⟩,Xd2 hX (Qn _)⟩
   rw [hF0,List.length_take,Nat.min_eq_left (by omega)]
   have:=hL.take i
   have hs:tEnt.size=7:=rfl
   rwa [hs,List.take_take,Nat.min_eq_left (by omega)] at this
  have Hm0:=Qh hm0
  have hFl:((l.take (i+1)).filter fun x=> !(p x)).length=i:=by rw [hF0,List.length_take];omega
  have HFl:=Qh hFl
  have hi7:(Tryz.prog.info? 68).map (·.size)=some 7:=by kernel_rfl
  have Hi7:=Qh hi7
  clear e1 e2 e3 hF0 hcell hm0 hFl hL hcur hI4 hv hi7
  go_enter Tryz.func70,Tryz.ntmps70
  go_wp2_with fail
  refine Hix.out.mono ?_
  rintro e w1 ⟨rfl,hb1⟩
  have Hm1:=Qh (Hm0.out w1 hb1)
  clear hb1 Hm0
  go_wp2_with fail
  go_loopw [5,6] (fun s5 s6 X=> ∃(j:Nat) (F:List Ent),i+1≤j∧j≤l.length∧s6= .int .i64 j∧s5= .int .i64 F.length∧F.length<j∧F=((l.take j).filter fun x=> !(p x))∧DelE I gb cur w F j X) (fun _ j _=>l.length-(intOf j).toNat)
  case atStart=>exact ⟨i+1,_,Qn _,hi,by go_num,by rw [HFl.out],by rw [HFl.out];omega,rfl,Hm1.out⟩
  case round=>
   clear Hm1 HFl
   obtain ⟨j,F,hij,hjl,rfl,rfl,hFj,hF,hm⟩:=hrel
   have HF:=Qh hF
   have Hm:=Qh hm
   clear hF hm
   by_cases hlt:j<l.length
   ·obtain ⟨a1,a2,c1,c2,h1,h2,hc⟩:=Hcell.out j hlt
    obtain ⟨x,hlx⟩:∃x,l[j]=x:=⟨_,rfl⟩
    have hxm:x∈l:=by rw [←hlx];exact List.getElem_mem hlt
    rw [hlx] at h1 h2 hc
    have hc0:=(Hm.out.cell (j*7) (Qn _)).trans (hc 0 _ rfl)
    have hc1:=(Hm.out.cell (j*7+1) (by omega)).trans (hc 1 _ rfl)
    have hc2:=(Hm.out.cell (j*7+2) (by omega)).trans (hc 2 _ rfl)
    have hc3:=(Hm.out.cell (j*7+3) (by omega)).trans (hc 3 _ rfl)
    have hc4:=(Hm.out.cell (j*7+4) (by omega)).trans (hc 4 _ rfl)
    have hc5:=(Hm.out.cell (j*7+5) (by omega)).trans (hc 5 _ rfl)
    have hc6:=(Hm.out.cell (j*7+6) (by omega)).trans (hc 6 _ rfl)
    have H12:=Qh (show tEnt.rd I (entCs x (.slice a1 x.attrs.length c1) (.slice a2 x.exts.length c2)) x from ⟨_,_,rfl,h1,h2⟩)
    have Hst:=Qh (show ((l.take (j+1)).filter fun x=> !(p x))=F++(if p x then [] else [x]) by
     rw [List.take_succ_eq_append_getElem hlt,hlx,List.filter_append,←HF.out];cases h:p x<;>simp [h])
    have Hcall:=Qh (Hp.out x hxm a1 a2 c1 c2)
    clear hlx hc hxm h1 h2
    have eg:=Heg.out
    go_wp2_with fail
    have hmA:=Hm.out.pass ((Qb _ wr).alloc (Qn _) (.cells #[.int .i64 x.kind,S x.path,.slice a1 x.attrs.length c1,S x.target,.int .i64 x.size,S x.digest,.slice a2 x.exts.length c2] 68))
    refine (Hcall.out _ hmA.grown).mono ?_
    rintro e w4 ⟨rfl,hb4⟩
    obtain ⟨d0,d1,d2,d3,d4,d5,d6⟩:=entB rfl hb4
    have Hm4:=Qh (hmA.pass hb4)
    have hsz4:gb<w4.heap.size:=by
     obtain ⟨arr,h1,_⟩:=Hm4.out.row_
     exact (Array.getElem?_eq_some_iff.1 h1).1
    clear hmA hb4 hc0 hc1 hc2 hc3 hc4 hc5 hc6 eg
    cases hpx:p x
    ·have Hnx:=Qh (show F++ [x]=((l.take (j+1)).filter fun x=> !(p x)) by rw [Hst.out,hpx];simp)
     obtain ⟨arr,ha1,ha2,_⟩:=Hm4.out.row_
     have Ha1:=Qh ha1
     have hfit:F.length*7+7≤arr.size:=by omega
     have hFl:F.length<l.length:=by omega
     clear hpx ha1 ha2
     go_wp2_with (refine Xbz rfl 68 _ _ rfl gb (F.length*7) (entCs x (.slice a1 x.attrs.length c1) (.slice a2 x.exts.length c2)) (by simp [Act.eval]) rfl arr 68 Ha1.out hfit Hi7.out (tEnt.one H12.out) ?_)
     go_roundw
     case rel=>exact ⟨j+1,F++ [x],by omega,by omega,by go_num,(by rw [List.length_append,List.length_singleton];go_num),(by rw [List.length_append,List.length_singleton];omega),Hnx.out,Hm4.out.put Ha1.out x _ H12.out (by omega) (by omega)⟩
     case measure=>simp [intOf];omega
    ·have Hnx:=Qh (show F=((l.take (j+1)).filter fun x=> !(p x)) by rw [Hst.out,hpx];simp)
     clear hpx
     go_wp2
     go_roundw
     case rel=>exact ⟨j+1,F,by omega,by omega,by go_num,rfl,by omega,Hnx.out,Hm4.out.next⟩
     case measure=>simp [intOf];omega
   ·have hje:j=l.length:=by omega
    have HF2:=Qh (show F=l.filter fun x=> !(p x) by rw [HF.out,List.take_of_length_le (by omega)])
    obtain ⟨arr,ha1,ha2,ha3,ha4⟩:=Hm.out.row_
    have hFlen:F.length<l.length:=by omega
    have hnc:¬F.length=cap:=by omega
    have hcl:=fun ty=>Xmj (P:=Tryz.prog) wr 40 68 ty _ Tryz.underlying40 Xtv gb (F.length*7) (l.length-F.length) (cap-F.length) (Xlg _) (by omega) arr 68 ha1 (by show F.length*7+(l.length-F.length)*7≤arr.size;omega)
    have Harr:=Qh (show arr.size=cur.size∧LiesL tEnt I (arr.toList.take (F.length*7)) F from ⟨ha2,ha3⟩)
    have Ha1:=Qh ha1
    have hgr:=Hm.out.grown
    clear ha1 ha2 ha3 ha4 hje
    go_wp2_with fail
    go_ret
    have hzl:(Builtin.zeroCells zeroRow (l.length-F.length)).toList.length=(l.length-F.length)*7:=by rw [Array.length_toList,size_zeroCells];rfl
    obtain ⟨ha2,ha3⟩:=Harr.out
    have hal:arr.toList.length=cap*7:=by rw [Array.length_toList,ha2,hcs]
    rw [←HF2.out]
    refine ⟨_,rfl,⟨_,⟨ha3.1,.inr ⟨gb,cap,_,rfl,hBg,setRow_heap _ _ _ _ _ _ Ha1.out,by omega,by unfold maxLen;omega,?_,?_⟩⟩,ha3⟩,Xbs hgr Xaw⟩
    ·rw [List.size_toArray,List.length_append,List.length_append,hzl,List.length_take,List.length_drop,hal]
     show min (F.length*7) (cap*7)+((l.length-F.length)*7+(cap*7-(F.length*7+(l.length-F.length)*7)))=cap*7
     omega
    ·show ((arr.toList.take (F.length*7)++_).toArray).toList.take (F.length*7)=arr.toList.take (F.length*7)
     rw [List.toList_toArray,List.take_append_of_le_length (by rw [List.length_take,hal];omega),List.take_take,Nat.min_self]
 ·rw [e1] at Hix
  have Hf:=Qh (show (l.filter fun x=> !(p x))=l from List.filter_eq_self.2 fun x hx=>by
   cases hpx:p x with
   |false=>rfl
   |true=>rw [List.any_eq_true.2 ⟨x,hx,hpx⟩] at e2;exact absurd e2 (by simp))
  clear e1 e2 hv hI4
  go_enter Tryz.func70,Tryz.ntmps70
  go_wp2_with fail
  refine Hix.out.mono ?_
  rintro e w1 ⟨rfl,hb1⟩
  go_wp2
  go_ret
  exact ⟨_,rfl,by rw [Hf.out];exact Hv.out.below hb1,Xd2 hb1 (Qn _)⟩
def remB (e:Ent) (x:Ent):Bool:=decide (e.kind=4)&&under x.path e.path
set_option maxRecDepth 100000 in
set_option maxHeartbeats 400000 in
theorem Xll (I:IH) (hI:Glob I) (e:Ent) (hel:e.path.length≤4294967280) (be:Nat) (ve vy:Value) (l:List Ent) (hl:SmlT l) (C:World→Prop) (hC:∀W,C W→Ok I W∧EntB W be e ve vy):
 PredE 68 #[.pointer (some ⟨be,0,none⟩)] l (remB e) C:=by
 intro x hx a1 a2 c1 c2 W hW
 obtain ⟨hok,hB⟩:=hC W hW
 have Hu:=Qh (fun w hw=>Xjg I hI x.path e.path (hl x hx).1 hel w hw)
 obtain ⟨c0,d1,d2,d3,d4,d5,d6⟩:=EntB.past hB (.cells #[.int .i64 x.kind,S x.path,.slice a1 x.attrs.length c1,S x.target,.int .i64 x.size,S x.digest,.slice a2 x.exts.length c2] 68)
 clear hB hC d2 d3 d4 d5 d6
 by_cases hk:e.kind=4
 ·have k1:((e.kind:Int)==4)=true:=by simpa using hk
  have Hn:=Qh (show remB e x=under x.path e.path by rw [remB,Qt hk];rfl)
  clear hk
  go_enter Tryz.func68,Tryz.ntmps68
  go_wp2_with fail
  refine (Hu.out _ (hok.alloc _)).mono ?_
  rintro e w1 ⟨rfl,hb1⟩
  go_wp2
  go_ret
  exact ⟨Xax Hn.out.symm,((Qb _ _).alloc (Qn _) _).trans (hb1.mono (by simp))⟩
 ·have k1:((e.kind:Int)==4)=false:=by simpa using hk
  have Hn:=Qh (show remB e x=false by rw [remB,Qf hk];rfl)
  clear hk
  go_enter Tryz.func68,Tryz.ntmps68
  go_wp2
  go_ret
  exact ⟨Xax Hn.out.symm,(Qb _ _).alloc (Qn _) _⟩
set_option maxRecDepth 100000 in
theorem Xlk (I:IH) (hI:Glob I) (x:Ent) (hx:x.path.length≤4294967280) (a1 a2:Option Addr) (c1 c2:Nat) (p:Bytes) (hp:p.length≤4294967280) (W:World) (hW:Ok I W):
 Calls Tryz.prog 74 #[entV x (.slice a1 x.attrs.length c1) (.slice a2 x.exts.length c2),S p] W fun e w'=>e= .returned (.int .i64 (cmpP x.path p))∧Below W.heap.size W w':=by
 have Hc:=Qh (fun w hw=>Xik I hI x.path p hx hp w hw)
 go_enter Tryz.func74,Tryz.ntmps74
 go_wp2_with fail
 refine (Hc.out _ (hW.alloc _)).mono ?_
 rintro e w1 ⟨rfl,hb1⟩
 go_wp2
 go_ret
 exact ⟨rfl,((Qb _ _).alloc (Qn _) _).trans (hb1.mono (by simp))⟩
def RetB (w:World) (n:Nat) (e:Ending) (w':World):Prop:= ∃b:Bool,e= .returned (.tuple #[.int .i64 n,.bool b])∧Below w.heap.size w w'
set_option maxRecDepth 100000 in
set_option maxHeartbeats 1000000 in
theorem Xd0 (I:IH) (hI:Glob I) (v:Value) (l:List Ent) (hv:RdS tEnt I v l) (hn:l.length≤1000000) (hl:SmlT l) (p:Bytes) (hp:p.length≤4294967280) (w:World) (hw:Ok I w):
 Calls Tryz.prog 73 #[v,S p,.func (.func 74) #[] #[]] w (RetB w (bs (notLess l p) 0 l.length)):=by
 obtain ⟨ao,cap,rfl,hcap,hcm,_⟩:=id hv
 have Hv:=Qh hv;clear hv
 have Hl:=Qh hl;clear hl
 have eg:∀args w,(callFunc 74 args).run Tryz.prog w= .ok (.enter 74 args) w:=fun _ _=>by kernel_rfl
 obtain ⟨N,hN⟩:∃N,bs (notLess l p) 0 l.length=N:=⟨_,rfl⟩
 have HN:=Qh hN
 rw [hN]
 clear hN
 go_enter Tryz.func73,Tryz.ntmps73
 go_wp2_with fail
 go_loopw [9,10] (fun s9 s10 wr=> ∃lo hi:Nat,s9= .int .i64 lo∧s10= .int .i64 hi∧lo≤hi∧hi≤l.length∧bs (notLess l p) lo hi=N∧Below w.heap.size w wr) (fun a b _=>(intOf b).toNat-(intOf a).toNat)
 case atStart=>exact ⟨0,l.length,rfl,rfl,Nat.zero_le _,Qn _,HN.out,Qb _ _⟩
 case round=>
  clear HN
  obtain ⟨lo,hi,rfl,rfl,hlh,hil,hr,hb⟩:=hrel
  have Hr:=Qh hr;clear hr
  have hwr:Ok I wr:=hw.below (Qn _) hb
  by_cases hlt:lo<hi
  ·obtain ⟨x,va,vx,b,off,cap',hlx,hvv,⟨c0,c1,c2,c3,c4,c5,c6⟩,h1,h2⟩:=Xeu Hv.out hwr ((lo+hi) / 2) (by omega)
   cases hvv
   obtain ⟨aa,ca,rfl,_,_,_⟩:=id h1
   obtain ⟨ax,cx,rfl,_,_,_⟩:=id h2
   have Hnl:=Qh (show notLess l p ((lo+hi) / 2)= !(ltP (els x.path) (els p)) by rw [notLess,List.getElem?_eq_getElem (by omega),hlx])
   have Hc:=Qh (fun W hW=>Xlk I hI x (Hl.out x (by rw [←hlx];exact List.getElem_mem _)).1 aa ax ca cx p hp W hW)
   have hj:(0:Int)≤((lo:Int)+(hi:Int)) / 2:=by omega
   have hj2:((lo:Int)+(hi:Int)) / 2<(l.length:Int):=by omega
   have hm:(((lo:Int)+(hi:Int)) / 2).toNat=(lo+hi) / 2:=by omega
   have hm2:(((lo+hi) / 2:Nat):Int)=((lo:Int)+(hi:Int)) / 2:=by omega
   have Hm2:=Qh hm2
   clear hlx h1 h2 hm2
   cases hlp:ltP (els x.path) (els p)
   ·have Hnx:=Qh (show bs (notLess l p) lo ((lo+hi) / 2)=N by rw [←Hr.out];conv=>rhs;rw [bs];rw [dif_pos hlt,Hnl.out,hlp];simp)
    rcases Xt5 hlp with hc|hc
    all_goals
     rw [hc] at Hc
     clear hc hlp
     go_wp2_with fail
     refine (Hc.out _ hwr).mono ?_
     rintro e w1 ⟨rfl,hb1⟩
     go_wp2
     go_roundw
     case rel=>exact ⟨lo,(lo+hi) / 2,rfl,by rw [Hm2.out],by omega,by omega,Hnx.out,hb.trans (hb1.mono hb.size)⟩
     case measure=>simp [intOf];omega
   ·have Hnx:=Qh (show bs (notLess l p) ((lo+hi) / 2+1) hi=N by rw [←Hr.out];conv=>rhs;rw [bs];rw [dif_pos hlt,Hnl.out,hlp];simp)
    rw [Xt4 hlp] at Hc
    clear hlp
    go_wp2_with fail
    refine (Hc.out _ hwr).mono ?_
    rintro e w1 ⟨rfl,hb1⟩
    go_wp2
    go_roundw
    case rel=>exact ⟨(lo+hi) / 2+1,hi,(by rw [←Hm2.out];go_num),rfl,by omega,by omega,Hnx.out,hb.trans (hb1.mono hb.size)⟩
    case measure=>simp [intOf];omega
  ·have Hlo:=Qh (show lo=N by rw [←Hr.out,bs,dif_neg hlt])
   by_cases hin:lo<l.length
   ·obtain ⟨x,va,vx,b,off,cap',hlx,hvv,⟨c0,c1,c2,c3,c4,c5,c6⟩,h1,h2⟩:=Xeu Hv.out hwr lo hin
    cases hvv
    obtain ⟨aa,ca,rfl,_,_,_⟩:=id h1
    obtain ⟨ax,cx,rfl,_,_,_⟩:=id h2
    have Hc:=Qh (fun W hW=>Xlk I hI x (Hl.out x (by rw [←hlx];exact List.getElem_mem _)).1 aa ax ca cx p hp W hW)
    have hd:decide (lo<l.length)=true:=Qt hin
    generalize cmpP x.path p=cc at Hc
    clear hlx h1 h2
    go_wp2_with fail
    refine (Hc.out _ hwr).mono ?_
    rintro e w1 ⟨rfl,hb1⟩
    go_wp2
    go_ret2
    rw [←Hlo.out]
    exact ⟨_,rfl,hb.trans (hb1.mono hb.size)⟩
   ·have hd:decide (lo<l.length)=false:=Qf hin
    go_wp2
    go_ret2
    rw [←Hlo.out]
    exact ⟨_,rfl,hb⟩
end Go.Proofs.YtjdednajelommaaGreatDoor
