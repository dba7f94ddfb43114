/- Lemmas for the claim's theorem;conditions: as each says. -/
import Derived.Test.YtmdfjnhfhidmhaaGreatDoorQ10
import Derived.Laws.CopyRow
set_option maxHeartbeats 0
set_option maxRecDepth 100000
set_option linter.all false
namespace Go.Proofs.YtmdfjnhfhidmhaaGreatDoor
open Go.RowKit
variable{P:Program}{w:World}
theorem Xjy(w:World)(t e ty:TypeId)(z:Value)(ht:P.underlying t=some (.slice e))(hv:∀w,(zeroValue e).run P w= .ok z w)(g o n c:Nat)(h1:∀u∈(Builtin.zeroCells z.cells n).toList,u.oneCell'=true)(hn:0<n)(cur:Array Value)(tt:TypeId)
 (hg:w.heap[g]?=some (.cells cur tt (0,0))) (j5:o+n*z.cells.size≤cur.size):
 (Builtin.clear_ #[t] ty #[.slice (some ⟨g,o,none⟩) n c]).run P w= .ok (.tuple #[]) (w.setRow g (cur.toList.take o++(Builtin.zeroCells z.cells n).toList++cur.toList.drop (o+n*z.cells.size)).toArray):=by
 have hl:(Builtin.zeroCells z.cells n).toList.length=n*z.cells.size:=by rw[Array.length_toList,size_zeroCells]
 have kN:=run_storeCells_at (P:=P) g o tt (Builtin.zeroCells z.cells n).toList 0 cur w hg (by rw[hl];omega) h1;rw[hl]at kN;simp only[Nat.add_zero]at kN;obtain⟨m,rfl⟩:∃m,n=m+1:=⟨n-1,by omega⟩;simp[Builtin.clear_,run_underlying ht,hv,kN]
theorem Qz{ops:Array Oper}{rest:List Oper}{op:Oper}{a:Act}{Q:Exit→Act→World→Prop}(yf:op.guard=none)(ty:TypeId)(x y:Operand)(ho:op.op= .store ty x y)
 (g o:Nat) (cs:List Value) (hx:a.eval x= .pointer (some ⟨g,o,none⟩)) (hy:a.eval y= .agg cs.toArray) (cur:Array Value) (tt:TypeId)
 (hg:w.heap[g]?=some (.cells cur tt (0,0))) (j5:o+cs.length≤cur.size) (hi:(P.info? ty).map (·.size)=some cs.length) (h1:∀v∈cs,v.oneCell'=true)
 (h:wpList P ops Q rest (a.put op.dst undef) (w.setRow g (over cur o cs))):wpList P ops Q (op::rest) a w:=by
 refine wpList_plain yf fun _ hK=> ?_;have kN:=run_storeCells_at (P:=P) g o tt cs 0 cur w hg (by simpa using j5) h1;have UZ:(storeVar ty ⟨g,o,none⟩ (.agg cs.toArray)).run P w= .ok () (w.setRow g (over cur o cs)):=by
  cases hq:P.info? ty with
  |none=>simp[hq]at hi
  |some i=>
   have hs:cs.length=i.size:=by simp[hq]at hi;omega
   simp only[Nat.add_zero]at kN;simp[storeVar,sizeOf,typeInfo,hq,Value.cells,hs,kN,over]
 unfold Oper.wp execOp;simp only[ho,hx,hy,Instr.storeAt,Instr.sureAddr,Sem.run_bind,Sem.run_pure,Result.andThen_ok,UZ];exact hK _ _ h
theorem Xnv(cur:Array Value)(o m:Nat)(cs:List Value)(h:o+cs.length≤m)(ho:o≤cur.size):(over cur o cs).toList.drop m=cur.toList.drop m:=by
 simp only[over];rw[List.drop_append,List.drop_eq_nil_of_le (by simp;omega),List.nil_append,List.drop_drop];congr 1;simp;omega
theorem QA{B:Nat}{w':World}{r:Option Nat}(h:Below B w w')(hB:w.heap.size≤B):w.grownBy w' r:=
 ⟨h.os,h.tape,h.output,h.size,fun k hk _=>h.block k (by omega)⟩
structure nU (I:IH) (gb:Nat) (cur:Array Value) (w0:World) (F:List aQ) (j:Nat) (X:World):Prop where
 rX:∃arr,X.heap[gb]?=some (.cells arr 81 (0,0))∧arr.size=cur.size∧bB bJ I (arr.toList.take (F.length*7)) F∧arr.toList.drop (j*7)=cur.toList.drop (j*7)
 grown:w0.grownBy X (some gb)
section
variable {I:IH} {gb j:Nat} {cur:Array Value} {w0 X X':World} {F:List aQ}
theorem nU.pass(h:nU I gb cur w0 F j X)(hb:Below X.heap.size X X'):nU I gb cur w0 F j X':=by
 obtain⟨arr,h1,h2⟩:=h.rX;have hlt:gb<X.heap.size:=(Qg h1);refine⟨⟨arr,(hb.block _ hlt).trans h1,h2⟩,?_⟩;exact⟨hb.os.trans h.grown.os,hb.tape.trans h.grown.tape,hb.output.trans h.grown.output,Nat.le_trans h.grown.size hb.size,fun k hk aZ=>(hb.block k (Nat.lt_of_lt_of_le hk h.grown.size)).trans (h.grown.block k hk aZ)⟩
theorem nU.next(h:nU I gb cur w0 F j X):nU I gb cur w0 F (j+1) X:=by
 obtain⟨arr,h1,h2,h3,h4⟩:=h.rX;refine⟨⟨arr,h1,h2,h3,?_⟩,h.grown⟩;rw[show(j+1)*7=j*7+7 by omega,←List.drop_drop,h4,List.drop_drop]
theorem nU.put{arr:Array Value}(h:nU I gb cur w0 F j X)(h1:X.heap[gb]?=some (.cells arr 81 (0,0)))(x:aQ)(cs:List Value)(fK:bJ.rd I cs x)(hF:F.length≤j)(hj:j*7+7≤cur.size):
 nU I gb cur w0 (F++[x]) (j+1) (X.setRow gb (over arr (F.length*7) cs)):=by
 obtain⟨aet,Bf,h2,h3,h4⟩:=h.rX;rw[h1]at Bf;cases Bf;have bU:cs.length=7:=bJ.len fK;refine⟨⟨_,setRow_heap _ _ _ _ _ _ h1,by rw[yx _ _ _ (by omega),h2],?_,?_⟩,GX h.grown vE⟩
 ·rw[List.length_append,List.length_singleton,show(F.length+1)*7=F.length*7+cs.length by omega,Qk _ _ _ (by omega)];exact h3.append (bB.one fK)
 ·rw[Xnv _ _ _ _ (by omega) (by omega),show(j+1)*7=j*7+7 by omega,←List.drop_drop,h4,List.drop_drop]
theorem nU.cell(h:nU I gb cur w0 F j X)(q:Nat)(hq:j*7≤q):X.cell? ⟨gb,q,none⟩=cur[q]? :=by
 obtain⟨arr,h1,h2,h3,h4⟩:=h.rX;rw[cell_of_row X gb q _ _ _ h1,←Array.getElem?_toList,←Array.getElem?_toList];have e1:=congrArg (fun L=>L[q-j*7]?) h4;simp only[List.getElem?_drop]at e1;rwa[show j*7+(q-j*7)=q by omega]at e1
end
theorem Xqf:∀w,(zeroValue 81).run Tryz.prog w= .ok (.agg bF) w:=Tryz.zeroValue81
theorem Xi4(n:Nat):∀u∈(Builtin.zeroCells (Value.agg bF).cells n).toList,u.oneCell'=true:=by
 intro u hu;simp only[Builtin.zeroCells,Value.cells]at hu;rw[Array.mem_toList_iff,Array.mem_map]at hu;obtain⟨i,_,rfl⟩:=hu;have h7:i%bF.size<7:=Nat.mod_lt _ (by decide);rcases(show i%bF.size=0∨i%bF.size=1∨i%bF.size=2∨i%bF.size=3∨i%bF.size=4∨i%bF.size=5∨i%bF.size=6 by omega)with h|h|h|h|h|h|h<;>rw[h]<;>rfl
theorem Xa(I:IH)(B:Nat)(v:Value)(l:List aQ)(w:World)(hv:aN bJ 81 I w B v l)(hn:l.length≤1000000)(g:Nat)(cb:Array Value)(p:aQ→Bool)(hw:Ok I w)(hI:∀b,B≤b→I b=none)(_hB:B≤w.heap.size)(eg:∀args w,(callFunc g args).run Tryz.prog w= .ok (.enter g args) w)(hp:uw g cb l p (fun W=>w.grownBy W v.ownBlock)):
 Calls Tryz.prog 82 #[v,.func (.func g) #[] cb] w fun e w'=> ∃v',e= .returned v'∧aN bJ 81 I w' B v' (l.filter fun x=> !(p x))∧w.grownBy w' v.ownBlock:=by
 obtain⟨I',jA,kL,oo,Xb⟩:=hv.freeze hw hI;have Xc:uw g cb l p (Below w.heap.size w):=fun x hx a1 a2 c1 c2 W hW=>hp x hx a1 a2 c1 c2 W (QA hW (Qn _));have hlen:=oo.bK;have Hp:=Qh hp;have xH:=Qh (WU I' v l oo g cb p w kL eg Xc);have Heg:=Qh eg;have HI3:=Qh oo;have Hv:=Qh hv;clear hp Xc eg oo;have je:∃ao cap,v= .slice ao l.length cap∧cap≤9223372036854775807:=by
  obtain⟨ao,cap,e,_,gV,_⟩:=id HI3.q;exact⟨ao,cap,e,by unfold maxLen at gV;omega⟩
 obtain⟨ao,cap,rfl,gV⟩:=je;rcases GQ l p with⟨i,hi,e1,e2,e3⟩|⟨e1,e2⟩
 ·have aU:∃gb cur,ao=some ⟨gb,0,none⟩∧B≤gb∧w.heap[gb]?=some (.cells cur 81 (0,0))∧l.length≤cap∧cur.size=cap*7∧bB bJ I (cur.toList.take (l.length*7)) l:=by
   obtain⟨xs,⟨_,h1⟩,hL⟩:=Hv.q;rcases h1 with⟨_,h0⟩|⟨gb,cap',cur,e,r1,r2,r3,r4,r5,r6⟩
   ·omega
   ·cases e;refine⟨gb,cur,rfl,r1,r2,r3,r5,?_⟩;have r6':cur.toList.take (l.length*7)=xs:=r6;rw[r6'];exact hL
  obtain⟨gb,cur,rfl,ym,nS,tV,fK,hL⟩:=aU;rw[e1]at xH;have xq:((i:Int)== -1)=false:=by rw[beq_eq_false_iff_ne];omega
  have QB:((l.take (i+1)).filter fun x=> !(p x))=l.take i:=by
   rw[List.take_succ_eq_append_getElem hi,List.filter_append];have:((l.take i).filter fun x=> !(p x))=l.take i:=List.filter_eq_self.2 fun x hx=>by
    cases hpx:p x with
    |false=>rfl
    |true=>rw[List.any_eq_true.2 ⟨x,hx,hpx⟩]at e3;exact absurd e3 (by simp)
   rw[this];simp[e2]
  have xz:∀j (h:j<l.length),∃a1 a2 c1 c2,aY lv I (.slice a1 l[j].au.length c1) l[j].au∧aY kQ I (.slice a2 l[j].aD.length c2) l[j].aD∧ ∀q u,(fT l[j] (.slice a1 l[j].au.length c1) (.slice a2 l[j].aD.length c2))[q]?=some u→cur[j*7+q]?=some u:=by
   intro j hj;obtain⟨cs,⟨va,vx,fK,h1,h2⟩,hc⟩:=hL.2 j hj;obtain⟨a1,c1,rfl,_,_,_⟩:=id h1;obtain⟨a2,c2,rfl,_,_,_⟩:=id h2;refine⟨a1,a2,c1,c2,h1,h2,fun q u hu=> ?_⟩;have h3:=hc q u (by rw[fK];exact hu);have hs:bJ.size=7:=rfl;rw[hs,List.getElem?_take]at h3;split at h3
   ·rw[←Array.getElem?_toList];exact h3
   ·cases h3
  have JR:=Qh xz;have hm0:∀X,Below w.heap.size w X→nU I gb cur w ((l.take (i+1)).filter fun x=> !(p x)) (i+1) X:=by
   intro X hX;have hlt:gb<w.heap.size:=(Qg nS);refine⟨⟨cur,(hX.block _ hlt).trans nS,rfl,?_,rfl⟩,QA hX (Qn _)⟩;rw[QB,List.length_take,Nat.min_eq_left (by omega)];have:=hL.take i;have hs:bJ.size=7:=rfl;rwa[hs,List.take_take,Nat.min_eq_left (by omega)]at this
  have EK:=Qh hm0;have QC:((l.take (i+1)).filter fun x=> !(p x)).length=i:=by rw[QB,List.length_take];omega
  have QD:=Qh QC;have xJ:(Tryz.prog.info? 81).map (·.size)=some 7:=by kernel_rfl
  have Du:=Qh xJ;clear e1 e2 e3 QB xz hm0 QC hL nS Xb hv xJ;go_enter Tryz.func82,Tryz.ntmps82
  go_wp2_with fail
  refine xH.q.mono ?_;rintro e w1 ⟨rfl,aG⟩;have JS:=Qh (EK.q w1 aG);clear aG EK;go_wp2_with fail
  go_loopw [5,6] (fun s5 s6 X=> ∃(j:Nat) (F:List aQ),i+1≤j∧j≤l.length∧s6= .int .i64 j∧s5= .int .i64 F.length∧F.length<j∧F=((l.take j).filter fun x=> !(p x))∧nU I gb cur w F j X) (fun _ j _=>l.length-(intOf j).toNat)
  case atStart=>exact⟨i+1,_,Qn _,hi,by go_num,by rw[QD.q],by rw[QD.q];omega,rfl,JS.q⟩
  case round=>
   clear JS QD;obtain⟨j,F,IU,yh,rfl,rfl,hFj,hF,hm⟩:=hrel;have HF:=Qh hF;have Hm:=Qh hm;clear hF hm;by_cases hlt:j<l.length
   ·obtain⟨a1,a2,c1,c2,h1,h2,hc⟩:=JR.q j hlt;obtain⟨x,dz⟩:∃x,l[j]=x:=⟨_,rfl⟩;have Eh:x∈l:=by rw[←dz];exact List.getElem_mem hlt
    rw[dz]at h1 h2 hc;have yP:=(Hm.q.cell (j*7) (Qn _)).trans (hc 0 _ rfl);have sP:=(Hm.q.cell (j*7+1) (by omega)).trans (hc 1 _ rfl);have wh:=(Hm.q.cell (j*7+2) (by omega)).trans (hc 2 _ rfl);have hc3:=(Hm.q.cell (j*7+3) (by omega)).trans (hc 3 _ rfl);have hc4:=(Hm.q.cell (j*7+4) (by omega)).trans (hc 4 _ rfl);have hc5:=(Hm.q.cell (j*7+5) (by omega)).trans (hc 5 _ rfl);have hc6:=(Hm.q.cell (j*7+6) (by omega)).trans (hc 6 _ rfl);have Xd:=Qh (show bJ.rd I (fT x (.slice a1 x.au.length c1) (.slice a2 x.aD.length c2)) x from⟨_,_,rfl,h1,h2⟩);have bT:=Qh (show((l.take (j+1)).filter fun x=> !(p x))=F++(if p x then []else [x]) by
     rw[List.take_succ_eq_append_getElem hlt,dz,List.filter_append,←HF.q];cases h:p x<;>simp[h])
    have jI:=Qh (Hp.q x Eh a1 a2 c1 c2);clear dz hc Eh h1 h2;have eg:=Heg.q;go_wp2_with fail
    have QE:=Hm.q.pass ((Qb _ wr).alloc (Qn _) (.cells #[.int .i64 x.aj,S x.ag,.slice a1 x.au.length c1,S x.av,.int .i64 x.size,S x.aI,.slice a2 x.aD.length c2] 81));refine(jI.q _ QE.grown).mono ?_;rintro e w4 ⟨rfl,bA⟩;obtain⟨d0,d1,d2,d3,d4,d5,d6⟩:=eO rfl bA;have Nz:=Qh (QE.pass bA);have kU:gb<w4.heap.size:=by
     obtain⟨arr,h1,_⟩:=Nz.q.rX;exact(Qg h1)
    clear QE bA yP sP wh hc3 hc4 hc5 hc6 eg;cases hpx:p x
    ·have qM:=Qh (show F++[x]=((l.take (j+1)).filter fun x=> !(p x)) by rw[bT.q,hpx];simp);obtain⟨arr,IZ,Am,_⟩:=Nz.q.rX;have NA:=Qh IZ;have j5:F.length*7+7≤arr.size:=by omega
     have QC:F.length<l.length:=by omega
     clear hpx IZ Am;go_wp2_with (refine Qz rfl 81 _ _ rfl gb (F.length*7) (fT x (.slice a1 x.au.length c1) (.slice a2 x.aD.length c2)) (by simp[Act.eval]) rfl arr 81 NA.q j5 Du.q (bJ.one Xd.q) ?_)
     go_roundw;case rel=>exact⟨j+1,F++[x],by omega,by omega,by go_num,(by rw[List.length_append,List.length_singleton];go_num),(by rw[List.length_append,List.length_singleton];omega),qM.q,Nz.q.put NA.q x _ Xd.q (by omega) (by omega)⟩
     case measure=>simp[intOf];omega
    ·have qM:=Qh (show F=((l.take (j+1)).filter fun x=> !(p x)) by rw[bT.q,hpx];simp);clear hpx;go_wp2;go_roundw;case rel=>exact⟨j+1,F,by omega,by omega,by go_num,rfl,by omega,qM.q,Nz.q.next⟩
     case measure=>simp[intOf];omega
   ·have EL:j=l.length:=by omega
    have HF2:=Qh (show F=l.filter fun x=> !(p x) by rw[HF.q,List.take_of_length_le (by omega)]);obtain⟨arr,IZ,Am,EA,ha4⟩:=Hm.q.rX;have Xe:F.length<l.length:=by omega
    have Bg:¬F.length=cap:=by omega
    have bU:=fun ty=>Xjy (P:=Tryz.prog) wr 37 81 ty _ Tryz.underlying37 Xqf gb (F.length*7) (l.length-F.length) (cap-F.length) (Xi4 _) (by omega) arr 81 IZ (by show F.length*7+(l.length-F.length)*7≤arr.size;omega);have QF:=Qh (show arr.size=cur.size∧bB bJ I (arr.toList.take (F.length*7)) F from⟨Am,EA⟩);have NA:=Qh IZ;have fF:=Hm.q.grown;clear IZ Am EA ha4 EL;go_wp2_with fail
    go_ret;have hzl:(Builtin.zeroCells bF (l.length-F.length)).toList.length=(l.length-F.length)*7:=by rw[Array.length_toList,size_zeroCells];rfl
    obtain⟨Am,EA⟩:=QF.q;have wB:arr.toList.length=cap*7:=by rw[Array.length_toList,Am,fK]
    rw[←HF2.q];refine⟨_,rfl,⟨_,⟨EA.1,.inr ⟨gb,cap,_,rfl,ym,setRow_heap _ _ _ _ _ _ NA.q,by omega,by unfold maxLen;omega,?_,?_⟩⟩,EA⟩,GX fF vE⟩
    ·rw[List.size_toArray,List.length_append,List.length_append,hzl,List.length_take,List.length_drop,wB];show min (F.length*7) (cap*7)+((l.length-F.length)*7+(cap*7-(F.length*7+(l.length-F.length)*7)))=cap*7;omega
    ·show((arr.toList.take (F.length*7)++_).toArray).toList.take (F.length*7)=arr.toList.take (F.length*7);rw[List.toList_toArray,List.take_append_of_le_length (by rw[List.length_take,wB];omega),List.take_take,Nat.min_self]
 ·rw[e1]at xH;have Hf:=Qh (show(l.filter fun x=> !(p x))=l from List.filter_eq_self.2 fun x hx=>by
   cases hpx:p x with
   |false=>rfl
   |true=>rw[List.any_eq_true.2 ⟨x,hx,hpx⟩]at e2;exact absurd e2 (by simp))
  clear e1 e2 hv Xb;go_enter Tryz.func82,Tryz.ntmps82
  go_wp2_with fail
  refine xH.q.mono ?_;rintro e w1 ⟨rfl,aG⟩;go_wp2;go_ret;exact⟨_,rfl,by rw[Hf.q];exact Hv.q.below aG,QA aG (Qn _)⟩
def qO(e:aQ)(x:aQ):Bool:=decide (e.aj=4)&&under x.ag e.ag
theorem Xf(I:IH)(hI:cB I)(e:aQ)(Al:e.ag.length≤4294967280)(be:Nat)(ve vy:Value)(l:List aQ)(hl:xK l)(C:World→Prop)(hC:∀W,C W→Ok I W∧eY W be e ve vy):
 uw 80 #[.pointer (some ⟨be,0,none⟩)] l (qO e) C:=by
 intro x hx a1 a2 c1 c2 W hW;obtain⟨iU,hB⟩:=hC W hW;have Hu:=Qh (fun w hw=>PV I hI x.ag e.ag (hl x hx).1 Al w hw);obtain⟨c0,d1,d2,d3,d4,d5,d6⟩:=eY.past hB (.cells #[.int .i64 x.aj,S x.ag,.slice a1 x.au.length c1,S x.av,.int .i64 x.size,S x.aI,.slice a2 x.aD.length c2] 81);clear hB hC d2 d3 d4 d5 d6;by_cases hk:e.aj=4
 ·have k1:((e.aj:Int)==4)=true:=by simpa using hk
  have Hn:=Qh (show qO e x=under x.ag e.ag by rw[qO,Qt hk];rfl);clear hk;go_enter Tryz.func80,Tryz.ntmps80
  go_wp2_with fail
  refine(Hu.q _ (iU.alloc _)).mono ?_;rintro e w1 ⟨rfl,aG⟩;go_wp2;go_ret;exact⟨iG Hn.q.symm,((Qb _ _).alloc (Qn _) _).trans (aG.mono (by simp))⟩
 ·have k1:((e.aj:Int)==4)=false:=by simpa using hk
  have Hn:=Qh (show qO e x=false by rw[qO,Qf hk];rfl);clear hk;go_enter Tryz.func80,Tryz.ntmps80
  go_wp2;go_ret;exact⟨iG Hn.q.symm,(Qb _ _).alloc (Qn _) _⟩
theorem Xg(I:IH)(hI:cB I)(x:aQ)(hx:x.ag.length≤4294967280)(a1 a2:Option Addr)(c1 c2:Nat)(p:af)(hp:p.length≤4294967280)(W:World)(hW:Ok I W):
 Calls Tryz.prog 86 #[fG x (.slice a1 x.au.length c1) (.slice a2 x.aD.length c2),S p] W fun e w'=>e= .returned (.int .i64 (kF x.ag p))∧Below W.heap.size W w':=by
 have Hc:=Qh (fun w hw=>PX I hI x.ag p hx hp w hw);go_enter Tryz.func86,Tryz.ntmps86
 go_wp2_with fail
 refine(Hc.q _ (hW.alloc _)).mono ?_;rintro e w1 ⟨rfl,aG⟩;go_wp2;go_ret;exact⟨rfl,((Qb _ _).alloc (Qn _) _).trans (aG.mono (by simp))⟩
def QG(w:World)(n:Nat)(e:Ending)(w':World):Prop:=∃b:Bool,e= .returned (.tuple #[.int .i64 n,.bool b])∧Below w.heap.size w w'
theorem Xc1(I:IH)(hI:cB I)(v:Value)(l:List aQ)(hv:aY bJ I v l)(hn:l.length≤1000000)(hl:xK l)(p:af)(hp:p.length≤4294967280)(w:World)(hw:Ok I w):
 Calls Tryz.prog 85 #[v,S p,.func (.func 86) #[] #[]] w (QG w (bs (ek l p) 0 l.length)):=by
 obtain⟨ao,cap,rfl,dM,gV,_⟩:=id hv;have Hv:=Qh hv;clear hv;have Hl:=Qh hl;clear hl;have eg:∀args w,(callFunc 86 args).run Tryz.prog w= .ok (.enter 86 args) w:=fun _ _=>by kernel_rfl
 obtain⟨N,hN⟩:∃N,bs (ek l p) 0 l.length=N:=⟨_,rfl⟩;have HN:=Qh hN;rw[hN];clear hN;go_enter Tryz.func85,Tryz.ntmps85
 go_wp2_with fail
 go_loopw [9,10] (fun s9 s10 wr=> ∃lo hi:Nat,s9= .int .i64 lo∧s10= .int .i64 hi∧lo≤hi∧hi≤l.length∧bs (ek l p) lo hi=N∧Below w.heap.size w wr) (fun a b _=>(intOf b).toNat-(intOf a).toNat)
 case atStart=>exact⟨0,l.length,rfl,rfl,Nat.zero_le _,Qn _,HN.q,Qb _ _⟩
 case round=>
  clear HN;obtain⟨lo,hi,rfl,rfl,hlh,IY,hr,hb⟩:=hrel;have Hr:=Qh hr;clear hr;have gZ:Ok I wr:=hw.below (Qn _) hb;by_cases hlt:lo<hi
  ·obtain⟨x,va,vx,b,off,cap',dz,dC,⟨c0,c1,c2,c3,c4,c5,c6⟩,h1,h2⟩:=uT Hv.q gZ ((lo+hi) / 2) (by omega);cases dC;obtain⟨aa,ca,rfl,_,_,_⟩:=id h1;obtain⟨ax,cx,rfl,_,_,_⟩:=id h2;have Hnl:=Qh (show ek l p ((lo+hi) / 2)=!(ic (els x.ag) (els p)) by rw[ek,List.getElem?_eq_getElem (by omega),dz]);have Hc:=Qh (fun W hW=>Xg I hI x (Hl.q x (by rw[←dz];exact List.getElem_mem _)).1 aa ax ca cx p hp W hW);have hj:(0:Int)≤((lo:Int)+(hi:Int)) / 2:=by omega
   have Ef:((lo:Int)+(hi:Int)) / 2<(l.length:Int):=by omega
   have hm:(((lo:Int)+(hi:Int)) / 2).toNat=(lo+hi) / 2:=by omega
   have I4:(((lo+hi) / 2:Nat):Int)=((lo:Int)+(hi:Int)) / 2:=by omega
   have Xh:=Qh I4;clear dz h1 h2 I4;cases hlp:ic (els x.ag) (els p)
   ·have qM:=Qh (show bs (ek l p) lo ((lo+hi) / 2)=N by rw[←Hr.q];conv=>rhs;rw[bs];rw[dif_pos hlt,Hnl.q,hlp];simp);rcases VP hlp with hc|hc
    all_goals
     rw[hc]at Hc;clear hc hlp;go_wp2_with fail
     refine(Hc.q _ gZ).mono ?_;rintro e w1 ⟨rfl,aG⟩;go_wp2;go_roundw;case rel=>exact⟨lo,(lo+hi) / 2,rfl,by rw[Xh.q],by omega,by omega,qM.q,hb.trans (aG.mono hb.size)⟩
     case measure=>simp[intOf];omega
   ·have qM:=Qh (show bs (ek l p) ((lo+hi) / 2+1) hi=N by rw[←Hr.q];conv=>rhs;rw[bs];rw[dif_pos hlt,Hnl.q,hlp];simp);rw[VO hlp]at Hc;clear hlp;go_wp2_with fail
    refine(Hc.q _ gZ).mono ?_;rintro e w1 ⟨rfl,aG⟩;go_wp2;go_roundw;case rel=>exact⟨(lo+hi) / 2+1,hi,(by rw[←Xh.q];go_num),rfl,by omega,by omega,qM.q,hb.trans (aG.mono hb.size)⟩
    case measure=>simp[intOf];omega
  ·have Xi:=Qh (show lo=N by rw[←Hr.q,bs,dif_neg hlt]);by_cases ql:lo<l.length
   ·obtain⟨x,va,vx,b,off,cap',dz,dC,⟨c0,c1,c2,c3,c4,c5,c6⟩,h1,h2⟩:=uT Hv.q gZ lo ql;cases dC;obtain⟨aa,ca,rfl,_,_,_⟩:=id h1;obtain⟨ax,cx,rfl,_,_,_⟩:=id h2;have Hc:=Qh (fun W hW=>Xg I hI x (Hl.q x (by rw[←dz];exact List.getElem_mem _)).1 aa ax ca cx p hp W hW);have hd:decide (lo<l.length)=true:=Qt ql;generalize kF x.ag p=cc at Hc;clear dz h1 h2;go_wp2_with fail
    refine(Hc.q _ gZ).mono ?_;rintro e w1 ⟨rfl,aG⟩;go_wp2;go_ret2;rw[←Xi.q];exact⟨_,rfl,hb.trans (aG.mono hb.size)⟩
   ·have hd:decide (lo<l.length)=false:=Qf ql;go_wp2;go_ret2;rw[←Xi.q];exact⟨_,rfl,hb⟩
