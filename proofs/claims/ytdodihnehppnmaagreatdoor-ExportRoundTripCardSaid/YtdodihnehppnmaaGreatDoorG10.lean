/- Lemmas for the claim's theorem;conditions: as each says. -/
import Derived.Test.YtdodihnehppnmaaGreatDoorG09
import Derived.Laws.CopyRow
set_option maxHeartbeats 0
set_option maxRecDepth 100000
set_option linter.all false
namespace Go.Proofs.YtdodihnehppnmaaGreatDoor
open Go.RowKit
variable{t:List ay}{p:ae}{P:Program}{w:World}
def yz(g:Nat)(cb:Array Value)(l:List ay)(p:ay→Bool)(C:World→Prop):Prop:=
 ∀x∈l,∀(a1 a2:Option Addr) (c1 c2:Nat) (W:World),C W→Calls Tryz.prog g (#[eT x (.slice a1 x.ai.length c1) (.slice a2 x.ak.length c2)]++cb) W fun e w'=>e= .returned (.bool (p x))∧Below W.heap.size W w'
theorem Xe9(I:IH)(v:Value)(l:List ay)(hv:bf bC I v l)(g:Nat)(cb:Array Value)(p:ay→Bool)(w:World)(hw:Ok I w)(eg:∀args w,(callFunc g args).run Tryz.prog w= .ok (.enter g args) w)(hp:yz g cb l p (Below w.heap.size w)):
 Calls Tryz.prog 116 #[v,.func (.func g) #[] cb] w fun e w'=>e= .returned (.int .i64 (l9 l p))∧Below w.heap.size w w':=by
 have hlen:=hv.dh;obtain⟨ao,cap,rfl,dD,il,_⟩:=id hv;have Hv:=Qh hv;clear hv;have Hp:=Qh hp;clear hp;go_enter Tryz.func116,Tryz.ntmps116
 go_wp2_with fail
 go_loopw [8] (fun s8 wr=> ∃k:Nat,k≤l.length∧s8= .int .i64 k∧(l.take k).any p=false∧Below w.heap.size w wr) (fun i _=>l.length-(intOf i).toNat)
 case atStart=>exact⟨0,Nat.zero_le _,rfl,rfl,Qb _ _⟩
 case round=>
  obtain⟨k,hk,rfl,hr,hb⟩:=hrel;have Hr:=Qh hr;clear hr;by_cases hlt:k<l.length
  ·have dz:Ok I wr:=hw.below (Qn _) hb;obtain⟨x,va,vx,b,off,cap',bN,di,⟨c0,c1,c2,c3,c4,c5,c6⟩,h1,h2⟩:=oG Hv.O dz k hlt;cases di;obtain⟨aa,ca,rfl,_,_,_⟩:=id h1;obtain⟨ax,cx,rfl,_,_,_⟩:=id h2;have sF:=Qh bN;have kJ:=Qh (Hp.O x (by rw[←bN];exact List.getElem_mem hlt) aa ax ca cx wr hb);clear bN h1 h2;go_wp2_with fail
   refine kJ.O.mono ?_;rintro e w1 ⟨rfl,au⟩;have av:=hb.trans (au.mono hb.size);clear au kJ c0 c1 c2 c3 c4 c5 c6;cases hpx:p x
   ·have Hn:=Qh (show(l.take (k+1)).any p=false by rw[List.take_succ_eq_append_getElem hlt,List.any_append,Hr.O,sF.O];simp[hpx]);clear hpx;go_wp2;go_roundw;case rel=>exact⟨k+1,by omega,by go_num,Hn.O,av⟩
    case measure=>simp[intOf];omega
   ·have Hn:=Qh (S9 (p:=p) hlt (by rw[sF.O];exact hpx) Hr.O);clear hpx;go_wp2;go_ret;exact⟨bT Hn.O.symm,av⟩
  ·have Hn:=Qh (show l9 l p= -1 from SY (by have:=Hr.O;rwa[List.take_of_length_le (by omega)]at this));go_wp2;go_ret;exact⟨bT Hn.O.symm,hb⟩
theorem Xxf(key:ae)(b:Nat)(l:List ay)(w:World)(hc:w.cell? ⟨b,0,none⟩=some (S key)):yz 117 #[.pointer (some ⟨b,0,none⟩)] l (fun x=>x.af==key) (Below w.heap.size w):=by
 intro x _ a1 a2 c1 c2 W hW;have JH:=dQ hW hc;have tH:=gD (.cells #[.int .i64 x.ag,S x.af,.slice a1 x.ai.length c1,S x.target,.int .i64 x.size,S x.aj,.slice a2 x.ak.length c2] 26) JH;clear hc JH;go_enter Tryz.func117,Tryz.ntmps117
 go_wp2;go_ret;exact⟨rfl,(Qb _ _).alloc (Qn _) _⟩
abbrev nJ(p:ae):ay→Bool:=fun x=>x.af==p
theorem WL(I:IH)(v:Value)(t:List ay)(hv:bf bC I v t)(p:ae)(w:World)(hw:Ok I w):
 Calls Tryz.prog 69 #[v,S p] w fun e w'=>e= .returned (.int .i64 (l9 t (nJ p)))∧Below w.heap.size w w':=by
 have Hp:=Qh (Xxf p w.heap.size t (w.alloc (.cells #[S p] 9)) (by simp));have Hi:=Qh (Xe9 I v t hv _ _ _ _ (hw.alloc _) (fun _ _=>by kernel_rfl) Hp.O);obtain⟨ao,cap,rfl,dD,il,_⟩:=id hv;clear hv;obtain⟨q,hq⟩:∃q,l9 t (nJ p)=q:=⟨_,rfl⟩;have Hq:=Qh hq;have qQ:=Qh (Hi.O);clear Hi hq;rw[show(fun x:ay=>x.af==p)=nJ p from rfl,Hq.O]at qQ;rw[Hq.O];go_enter Tryz.func69,Tryz.ntmps69
 go_wp2_with fail
 refine qQ.O.mono ?_;rintro e w1 ⟨rfl,au⟩;go_wp2;go_ret;exact⟨rfl,((Qb _ _).alloc (Qn _) _).trans (au.mono (by simp))⟩
theorem Xm4{i:Nat}(hi:i<t.length)(hp:nJ p t[i]=true)(hn:(t.take i).any (nJ p)=false):jf t p=(t[i],true):=by
 have:dC t p=some t[i]:=by
  unfold dC;conv=>lhs;rw[←List.take_append_drop i t]
  rw[List.find?_append,List.drop_eq_getElem_cons hi,List.find?_cons];have h2:(t[i].af==p)=true:=hp;rw[h2];have:(t.take i).find? (fun x=>x.af==p)=none:=by
   rw[List.find?_eq_none];intro x hx hpx;rw[List.any_eq_true.2 ⟨x,hx,hpx⟩]at hn;exact absurd hn (by simp)
  rw[this];rfl
 rw[jf,this]
theorem Xm5(hn:t.any (nJ p)=false):jf t p=(zeroE,false):=by
 have:dC t p=none:=by
  unfold dC;rw[List.find?_eq_none];intro x hx hpx;rw[List.any_eq_true.2 ⟨x,hx,hpx⟩]at hn;exact absurd hn (by simp)
 rw[jf,this]
theorem TC(I:IH)(v:Value)(t:List ay)(hv:bf bC I v t)(p:ae)(w:World)(hw:Ok I w):
 Calls Tryz.prog 67 #[v,S p] w (OS I w (jf t p)):=by
 have hlen:=hv.dh;have Hf:=Qh (WL I v t hv p (w.alloc (.cells aC 26)) (hw.alloc _));obtain⟨ao,cap,rfl,dD,il,_⟩:=id hv;have Hv:=Qh hv;clear hv;have lI:(Tryz.prog.info? 26).map (·.size)=some 7:=by kernel_rfl
 have lD:=heap_alloc_new w (.cells aC 26);have Hz0:=Qh lD;clear lD;rcases IE t (nJ p)with⟨i,hi,e1,e2,e3⟩|⟨e1,e2⟩
 ·have Hn:=Qh (Xm4 hi e2 e3);rw[e1]at Hf;clear e1 e2 e3;go_enter Tryz.func67,Tryz.ntmps67
  go_wp2_with fail
  refine Hf.O.mono ?_;rintro e w1 ⟨rfl,au⟩;have aB:Ok I w1:=(hw.alloc _).below (Qn _) au;have eU:w.heap.size<w1.heap.size:=by have:=au.size;simp at this;omega
  have Hz:=Qh ((au.block w.heap.size (by simp)).trans Hz0.O);have av:=((Qb w.heap.size w).alloc (Qn _) (.cells aC 26)).trans (au.mono (by simp));clear au;obtain⟨x,va,vx,b,off,cap',bN,di,⟨c0,c1,c2,c3,c4,c5,c6⟩,h1,h2⟩:=oG Hv.O aB i hi;cases di;obtain⟨aa,ca,rfl,_,_,_⟩:=id h1;obtain⟨ax,cx,rfl,_,_,_⟩:=id h2;have H1:=Qh h1;have H2:=Qh h2;rw[bN]at Hn;have EM:=Xkc h1 h2;clear bN h1 h2;go_wp2_with (refine wpList_store_row rfl 26 _ _ rfl w.heap.size (aQ x (.slice aa x.ai.length ca) (.slice ax x.ak.length cx)) rfl rfl 26 aC Hz.O lI rfl EM ?_)
  try simp only[Exit.inBlock,Exit.then]
  refine bodyPost_ret (v:= .tuple #[eT x (.slice aa x.ai.length ca) (.slice ax x.ak.length cx),.bool true]) ?_ rfl ?_
  ·rw[results_cell_tmp rfl];simp[asAddr,run_loadVar_row _ w.heap.size 26 26 (aQ x (.slice aa x.ai.length ca) (.slice ax x.ak.length cx)) (0,0) _ (setRow_heap _ _ _ _ _ _ Hz.O) Tryz.underlying26 rfl lI]
  ·rw[Hn.O];exact⟨_,_,rfl,H1.O,H2.O,below_setRow av (Qn _) _⟩
 ·have Hn:=Qh (Xm5 e2);rw[e1]at Hf;clear e1 e2;go_enter Tryz.func67,Tryz.ntmps67
  go_wp2_with fail
  refine Hf.O.mono ?_;rintro e w1 ⟨rfl,au⟩;have Hz:=Qh ((au.block w.heap.size (by simp)).trans Hz0.O);have av:=((Qb w.heap.size w).alloc (Qn _) (.cells aC 26)).trans (au.mono (by simp));clear au;have VQ:aC.all (·.oneCell')=true:=by simp[Value.oneCell']
  go_wp2_with (refine wpList_store_row rfl 26 _ _ rfl w.heap.size aC rfl rfl 26 aC Hz.O lI rfl VQ ?_)
  try simp only[Exit.inBlock,Exit.then]
  refine bodyPost_ret (v:= .tuple #[.agg aC,.bool false]) ?_ rfl ?_
  ·rw[results_cell_tmp rfl];simp[asAddr,run_loadVar_row _ w.heap.size 26 26 aC (0,0) _ (setRow_heap _ _ _ _ _ _ Hz.O) Tryz.underlying26 rfl lI]
  ·rw[Hn.O];exact⟨.slice none 0 0,.slice none 0 0,rfl,bf.nil _ _,bf.nil _ _,below_setRow av (Qn _) _⟩
theorem WM(I:IH)(v:Value)(t:List ay)(hv:bf bC I v t)(p:ae)(w:World)(hw:Ok I w):
 Calls Tryz.prog 83 #[v,S p] w fun e w'=>e= .returned (.int .i64 (aU t p))∧Below w.heap.size w w':=by
 have Hg:=Qh (TC I v t hv p w hw);obtain⟨ao,cap,rfl,dD,il,_⟩:=id hv;clear hv;by_cases hp:p=[]
 ·obtain⟨p1,p2,p3,p4⟩:=Bu hp;have Hn:=Qh (show aU t p=0 by rw[aU,if_pos hp]);clear hp;generalize jf t p=g at Hg;obtain⟨x,b⟩:=g;go_enter Tryz.func83,Tryz.ntmps83
  go_wp2_with fail
  refine Hg.O.mono ?_;rintro e w1 ⟨va,vx,rfl,h1,h2,au⟩;obtain⟨aa,ca,rfl,_,_,_⟩:=id h1;obtain⟨ax,cx,rfl,_,_,_⟩:=id h2;clear h1 h2;go_wp2;go_ret;exact⟨bT Hn.O.symm,au.alloc au.size _⟩
 ·obtain⟨p1,p2,p3,p4⟩:=zC hp;have Hn:=Qh (Xke t p hp);clear hp;generalize jf t p=g at Hn Hg;obtain⟨x,b⟩:=g;go_enter Tryz.func83,Tryz.ntmps83
  go_wp2_with fail
  refine Hg.O.mono ?_;rintro e w1 ⟨va,vx,rfl,h1,h2,au⟩;obtain⟨aa,ca,rfl,_,_,_⟩:=id h1;obtain⟨ax,cx,rfl,_,_,_⟩:=id h2;clear h1 h2;cases b
  ·have iQ:=Qh (show aU t p=9 by rw[Hn.O];rfl);go_wp2;go_ret;exact⟨bT iQ.O.symm,au.alloc au.size _⟩
  ·by_cases hk:x.ag=2
   ·have k1:((x.ag:Int) !=2)=false:=by simpa using hk
    have iQ:=Qh (show aU t p=0 by rw[Hn.O];simp[hk]);clear hk;go_wp2;go_ret;exact⟨bT iQ.O.symm,au.alloc au.size _⟩
   ·have k1:((x.ag:Int) !=2)=true:=by simpa using hk
    have iQ:=Qh (show aU t p=10 by rw[Hn.O];simp[hk]);clear hk;go_wp2;go_ret;exact⟨bT iQ.O.symm,au.alloc au.size _⟩
def inT(k:Int):Bool:=decide (k=1) || decide (k=2) || decide (k=3)
theorem lU{k:Int}:inT k=true↔k=1∨k=2∨k=3:=by simp[inT,or_assoc]
theorem WN(k:Int)(w:World):Calls Tryz.prog 77 #[.int .i64 k] w fun e w'=>e= .returned (.bool (inT k))∧w=w':=by
 by_cases h1:k=1
 ·have Hn:=Qh (show inT k=true from lU.2 (.inl h1));have f1:((k:Int)==1)=true:=by simpa using h1
  clear h1;go_enter Tryz.func77,Tryz.ntmps77
  go_wp2;go_ret;exact⟨gZ Hn.O.symm,rfl⟩
 by_cases h2:k=2
 ·have Hn:=Qh (show inT k=true from lU.2 (.inr (.inl h2)));have f1:((k:Int)==1)=false:=by simpa using h1
  have f2:((k:Int)==2)=true:=by simpa using h2
  clear h1 h2;go_enter Tryz.func77,Tryz.ntmps77
  go_wp2;go_ret;exact⟨gZ Hn.O.symm,rfl⟩
 by_cases h3:k=3
 ·have Hn:=Qh (show inT k=true from lU.2 (.inr (.inr h3)));have f1:((k:Int)==1)=false:=by simpa using h1
  have f2:((k:Int)==2)=false:=by simpa using h2
  have f3:((k:Int)==3)=true:=by simpa using h3
  clear h1 h2 h3;go_enter Tryz.func77,Tryz.ntmps77
  go_wp2;go_ret;exact⟨gZ Hn.O.symm,rfl⟩
 have Hn:=Qh (show inT k=false by
  cases h:inT k with
  |false=>rfl
  |true=>rcases lU.1 h with h|h|h<;>contradiction)
 have f1:((k:Int)==1)=false:=by simpa using h1
 have f2:((k:Int)==2)=false:=by simpa using h2
 have f3:((k:Int)==3)=false:=by simpa using h3
 clear h1 h2 h3;go_enter Tryz.func77,Tryz.ntmps77
 go_wp2;go_ret;exact⟨gZ Hn.O.symm,rfl⟩
def pJ(t:List ay):Prop:=∀x∈t,x.af.length≤4294967280∧x.target.length≤4294967280
theorem Xlk(t:List ay)(q:Option ay)(x:ay)(l:List ay):eH t q (x::l)=if az x≠0 then az x else if x.ag≠1∧x.ag≠2∧x.ag≠3 then 10 else if(q.any fun y=> !(gU (els y.af) (els x.af)))then 14 else if aU t (jO x.af)≠0 then aU t (jO x.af)else eH t (some x) l:=rfl
theorem Xo5{x:ay}(h:az x=0):aF x.af=0∧(x.af≠[]∨5≤x.ag):=by
 rw[Tz]at h;split at h
 ·omega
 ·split at h
  ·contradiction
  ·rename_i h1 h2;refine⟨Classical.byContradiction h2,?_⟩;split at h
   ·omega
   ·rename_i h3;by_cases hp:x.af=[]
    ·right;exact Int.not_lt.1 fun h4=>h3 ⟨hp,h4⟩
    ·exact .inl hp
theorem Pw:(Tryz.prog.info? 26).map (fun i=>(i.zero,i.size,i.bytes))=some (some (.agg #[.int .i64 0,.string ⟨#[]⟩,.slice none 0 0,.string ⟨#[]⟩,.int .i64 0,.string ⟨#[]⟩,.slice none 0 0]),7,112):=by kernel_rfl
theorem IV(I:IH)(v:Value)(l:List _)(hv:bf bC I v l)(w:World)(hw:Ok I w)(iW:l.length*112≤140737488355328):
 Calls Tryz.prog 81 #[v] w fun e w'=> ∃v',e= .returned v'∧aM bC 26 I w' w.heap.size v' l∧Below w.heap.size w w':=by
 obtain⟨i0,hi,lD,oQ,uR⟩:=info_parts Pw;have q22:∀(w:World) (a:Option Addr) (n c n' c':Nat),(binOp .eql 33 (.slice a n c) (.slice none n' c')).run Tryz.prog w= .ok (.bool a.isNone) w:=fun w a n c n' c'=>Lib.run_eql_slice_nil w _ _ a n c n' c' Tryz.underlying33;obtain⟨ao,cap,xs,rfl,dD,il,hL,hx⟩:=hv.cells hw (by decide);have HL:=Qh hL;have Hx:=Qh hx;clear hL hx hv;cases ao with
 |none=>
  have h0:l.length=0:=by
   rcases Nat.eq_zero_or_pos l.length with h|h
   ·exact h
   ·obtain⟨b,off,arr,e,_⟩:=Hx.O h;cases e
  have:l=[]:=List.eq_nil_of_length_eq_zero h0;subst this;go_enter Tryz.func81,Tryz.ntmps81
  go_wp2;go_ret;exact⟨_,rfl,aM.nil _ _ _ _ _,Qb _ _⟩
 |some a=>
  go_enter Tryz.func81,Tryz.ntmps81
  go_wp2_with (at_builtin;refine wpList_append_own _ rfl _ _ 33 rfl w.heap.size 26 i0 _ 7 112 Tryz.underlying33 hi lD oQ uR rfl (by decide) _ _ _ rfl (World.ownsRow_made w #[] 0 (Qn _) (Nat.zero_le _) (by simp)) a l.length cap xs rfl ?qc1 ?qc2 ?qc3 ?qc4 ?qc5 ?qc6 ?_)
  case qc1=>exact HL.O.1
  case qc2=>
   intro j u hj;have hl:0<l.length:=by
    have:=(List.getElem?_eq_some_iff.1 hj).1;rw[HL.O.1]at this;rcases Nat.eq_zero_or_pos l.length with h|h
    ·rw[h]at this;omega
    ·exact h
   obtain⟨b,off,arr,e,_,hb,hc⟩:=Hx.O hl;cases e;rw[Addr.add_lit];rw[World.cell?_alloc_lt _ _ _ hb];exact hc j u hj
  case qc3=>exact HL.O.oneCell
  case qc4=>rw[Nat.zero_add];omega
  case qc5=>rw[Nat.zero_add];exact iW
  case qc6=>simp
  intro v' w1 bJ qL _;go_wp2;go_ret;refine⟨v',rfl,⟨xs,(by have hq:=bJ;first|exact hq|(simp at hq;exact hq)),HL.O⟩,?_⟩;exact((Qb _ w).alloc (Qn _) _).grown qL (by simp) (by intro k hk;simp[Value.ownBlock]at hk;omega)
theorem Xjp(I:IH)(B:Nat)(v:Value)(l:List _)(x:_)(vb:Nat)(news:List Value)(w:World)(hv:aM bC 26 I w B v l)(hx:bC.rd I news x)
 (Db:∀j u,news[j]?=some u→w.cell? ⟨vb,j,none⟩=some u) (iW:(l.length+1)*112≤140737488355328) (hB:B≤w.heap.size):
 Calls Tryz.prog 86 #[v,.int .i64 l.length,.slice (some ⟨vb,0,none⟩) 1 1] w fun e w'=> ∃v',e= .returned v'∧aM bC 26 I w' B v' (l++[x])∧w.grownBy w' v.ownBlock:=by
 obtain⟨i0,hi,lD,oQ,uR⟩:=info_parts Pw;obtain⟨xs,bJ,hL⟩:=hv;have HL:=Qh hL;have Hx:=Qh hx;have DF:=Qh Db;have uM:maxLen=9223372036854775807:=rfl;have hlen:l.length≤4611686018427387904:=by omega
 clear hL hx Db;have jI:v= .slice none 0 0∧l.length=0∨ ∃g cap,v= .slice (some ⟨g,0,none⟩) l.length cap∧l.length≤cap∧cap≤9223372036854775807:=by
  rcases bJ.2 with h|⟨g,cap,cur,h1,_,_,h2,h3,_⟩
  ·exact .inl h
  ·exact .inr ⟨g,cap,h1,h2,by rw[uM]at h3;exact h3⟩
 have Po:=Qh uM;clear uM;rcases jI with⟨rfl,h0⟩|⟨g,cap,rfl,dD,il⟩
 ·have:l=[]:=List.eq_nil_of_length_eq_zero h0;subst this;go_enter Tryz.func86,Tryz.ntmps86
  go_wp2_with (at_builtin;refine wpList_append_own _ rfl _ _ 33 rfl B 26 i0 _ 7 112 Tryz.underlying33 hi lD oQ uR rfl (by decide) _ _ _ rfl bJ ⟨vb,0,none⟩ 1 1 news rfl ?qc1 ?qc2 ?qc3 ?qc4 ?qc5 ?qc6 ?_)
  case qc1=>exact bC.len Hx.O
  case qc2=>intro j u hj;rw[Addr.add_lit,Nat.zero_add];exact DF.O j u hj
  case qc3=>exact bC.one Hx.O
  case qc4=>rw[Po.O];simp
  case qc5=>simp
  case qc6=>exact hB
  intro v' w1 dA qL _;go_wp2;go_ret;exact⟨v',rfl,⟨_,dA,bR.append HL.O (bR.one Hx.O)⟩,qL⟩
 ·go_enter Tryz.func86,Tryz.ntmps86
  go_wp2_with (at_builtin;refine wpList_append_own _ rfl _ _ 33 rfl B 26 i0 _ 7 112 Tryz.underlying33 hi lD oQ uR rfl (by decide) _ _ _ rfl bJ ⟨vb,0,none⟩ 1 1 news rfl (bC.len Hx.O) (fun j u hj=>by rw[Addr.add_lit,Nat.zero_add];exact DF.O j u hj) (bC.one Hx.O) (by rw[Po.O];omega) iW hB ?_)
  all_goals
   intro v' w1 dA qL _;go_wp2;go_ret;exact⟨v',rfl,⟨_,by rw[List.length_append];exact dA,bR.append HL.O (bR.one Hx.O)⟩,qL⟩
theorem Xhf(I:IH)(B g cap i:Nat)(l:List _)(x:_)(vb:Nat)(tb:TypeId)(news:List Value)(w:World)(hv:aM bC 26 I w B (.slice (some ⟨g,0,none⟩) l.length cap) l)(hx:bC.rd I news x)
 (pX:w.heap[vb]?=some (.cells news.toArray tb (0,0))) (cK:vb≠g) (hi:i<l.length) (pu:l.length+1≤cap) (il:cap≤9223372036854775807):
 Calls Tryz.prog 86 #[.slice (some ⟨g,0,none⟩) l.length cap,.int .i64 i,.slice (some ⟨vb,0,none⟩) 1 1] w fun e w'=> ∃v',e= .returned v'∧aM bC 26 I w' B v' (l.take i++x::l.drop i)∧w.grownBy w' (some g):=by
 obtain⟨i0,Cw,lD,oQ,uR⟩:=info_parts Pw;obtain⟨xs,⟨mP,bJ⟩,hL⟩:=hv;rcases bJ with⟨h0,_⟩|⟨g',cap',cur,h1,Cx,hg,_,Ar,iY,qJ⟩
 ·cases h0
 injection h1 with uK h1b Mg
 injection uK with uK
 injection uK with uK
 subst uK Mg;have eU:(Tryz.prog.info? 26).map (·.size)=some 7:=by rw[Cw];simp[oQ]
 have uL:news.length=7:=bC.len hx;have vZ:=bC.one hx;have ui:xs.length=l.length*7:=mP;have lv:cur.size=cap*7:=iY;have mg:cur.toList.take xs.length=xs:=by rw[mP];exact qJ
 have hov:∀lb cb,(callFunc 135 #[.slice (some ⟨vb,0,none⟩) 1 1,.slice (some ⟨g,(i+1)*7,none⟩) lb cb]).run Tryz.prog w= .ok (.value (.bool false)) w:=fun lb cb=>by
  rw[run_callFunc_extern Tryz.func135 (by kernel_rfl) (by kernel_rfl) (by kernel_rfl) (e:=Extern.SlicesOverlaps.overlaps #[33,33] #[4]) (by kernel_rfl),
   Lib.run_overlaps_apart w 33 4 26 Tryz.underlying33 7 (fun w=>by simp[go_sem]) ⟨vb,0,none⟩ ⟨g,(i+1)*7,none⟩ 1 1 lb cb cK tb 26 7 cur.size (by simp[World.shape?,pX,uL]) (by simp[World.shape?,hg]) (by omega) (by simp[World.frozen?,pX]) (by simp[World.frozen?,pX])]
  rfl
 obtain⟨jW,qy⟩:∃c,c=over cur (i*7+7) (xs.drop (i*7)):=⟨_,rfl⟩;have oD:jW.size=cur.size:=by rw[qy];exact CG _ _ _ (by rw[List.length_drop];omega)
 obtain⟨rA,qz⟩:∃c,c=over jW (i*7) news:=⟨_,rfl⟩;have oV:rA.size=jW.size:=by rw[qz];exact CG _ _ _ (by omega)
 have iX:rA.toList.take ((l.length+1)*7)=xs.take (i*7)++news++xs.drop (i*7):=by
  have:=insert_row cur xs news (i*7) 7 (by omega) mg uL (by omega);rw[←qy,←qz]at this;rw[show(l.length+1)*7=xs.length+7 by omega];exact this
 have Au:∀ty dc sc,(Builtin.copy_ #[33,33] ty #[.slice (some ⟨g,(i+1)*7,none⟩) (l.length-i) dc,.slice (some ⟨g,i*7,none⟩) (l.length+1-i) sc]).run Tryz.prog w.drew= .ok (goInt ((l.length-i:Nat):Int)) (w.drew.setRow g jW):=fun ty dc sc=>by
  have h:=Fg (P:=Tryz.prog) w.drew 33 33 ty 26 7 g ((i+1)*7) (l.length-i) dc ⟨g,i*7,none⟩ (l.length+1-i) sc cur 26 (xs.drop (i*7)) Tryz.underlying33 eU hg (by rw[List.length_drop];simp only[Nat.min_def];split<;>omega)
   (fun j u hj=>by
     rw[Addr.add_lit];rw[List.getElem?_drop,←mg,List.getElem?_take]at hj;split at hj
     ·rw[World.cell?_drew,cell_of_row w g _ cur _ _ hg,←Array.getElem?_toList];exact hj
     ·cases hj) (by rw[List.length_drop];omega) (fun u hu=>hL.oneCell u (List.mem_of_mem_drop hu))
  rw[h,show Nat.min (l.length+1-i) (l.length-i)=l.length-i by simp only[Nat.min_def];split<;>omega,qy];rw[show(i+1)*7=i*7+7 by omega];rfl
 have hg1:(w.drew.setRow g jW).heap[g]?=some (.cells jW 26 (0,0)):=setRow_heap w.drew g cur jW _ _ hg;have Av:∀ty dc,(Builtin.copy_ #[33,33] ty #[.slice (some ⟨g,i*7,none⟩) (l.length+1-i) dc,.slice (some ⟨vb,0,none⟩) 1 1]).run Tryz.prog (w.drew.setRow g jW)= .ok (goInt 1) ((w.drew.setRow g jW).setRow g rA):=fun ty dc=>by
  have h:=Fg (P:=Tryz.prog) (w.drew.setRow g jW) 33 33 ty 26 7 g (i*7) (l.length+1-i) dc ⟨vb,0,none⟩ 1 1 jW 26 news Tryz.underlying33 eU hg1 (by rw[uL];simp only[Nat.min_def];split<;>omega)
   (fun j u hj=>by
     rw[Addr.add_lit,Nat.zero_add];have:(w.drew.setRow g jW).heap[vb]?=some (.cells news.toArray tb (0,0)):=by rw[setRow_other _ _ _ _ cK];exact pX
     rw[cell_of_row _ vb j _ _ _ this];simpa using hj) (by omega) vZ
  rw[h,show Nat.min 1 (l.length+1-i)=1 by simp only[Nat.min_def];split<;>omega,qz];rfl
 have sU:=Qh (show(xs.take (i*7)++news++xs.drop (i*7)).length=(l.length+1)*7 by simp;omega);have zF:=Qh (show rA.size=cap*7 by omega);have nM:=Qh iX;have HL:=Qh hL;have Hx:=Qh hx;have zJ:=Qh hg1;have au:¬(cap=i+1):=by omega
 have aD:¬(cap=i):=by omega
 clear iX hL hx hg1 qy qz mP ui iY lv qJ mg uL vZ pX Ar hg;have uF:IntKind.i64.wrap ((i:Int)+1)=(i:Int)+1:=IntWalk.i64_in _ (by omega);have yY:0≤(i:Int)+1:=by omega
 have oF:((i:Int)+1).toNat=i+1:=by omega
 have Bg:i≤l.length:=by omega
 have II:(i:Int)≤(l.length:Int)+1:=by omega
 go_enter Tryz.func86,Tryz.ntmps86
 go_wp2_with (simp only[hov])
 go_region_law (refine step_copy_runI rfl _ _ 33 33 rfl _ _ (by simp[Act.eval,Act.put]) (by simp[Act.eval,Act.put]) (Au _ _ _) ?_)
 go_wp2_with (at_builtin;refine wpList_copy_runI _ rfl _ _ 33 33 rfl _ _ rfl rfl (Av _ _) ?_)
 go_ret;have EP:(l.take i++x::l.drop i).length=l.length+1:=by simp;omega
 refine⟨_,rfl,?_,?_⟩
 ·unfold aM;rw[EP];refine⟨xs.take (i*7)++news++xs.drop (i*7),⟨sU.O,.inr ⟨g,cap,rA,rfl,Cx,setRow_heap _ g jW rA _ _ zJ.O,by omega,by unfold maxLen;omega,zF.O,nM.O⟩⟩,?_⟩;have:=((HL.O.take i).append (bR.one Hx.O)).append (HL.O.drop i);rwa[show l.take i++[x]++l.drop i=l.take i++x::l.drop i by simp]at this
 ·have h0:w.grownBy w.drew (some g):=⟨rfl,rfl,rfl,Qn _,fun _ _ _=>rfl⟩;exact Nb (Nb h0 Bp) Bp
theorem Xix(I:IH)(B g cap i:Nat)(l:List _)(x:_)(vb:Nat)(tb:TypeId)(news:List Value)(w:World)(hv:aM bC 26 I w B (.slice (some ⟨g,0,none⟩) l.length cap) l)(hx:bC.rd I news x)
 (pX:w.heap[vb]?=some (.cells news.toArray tb (0,0))) (hi:i<l.length) (pu:cap<l.length+1) (iW:(l.length+1)*112≤140737488355328) (hB:B≤w.heap.size):
 Calls Tryz.prog 86 #[.slice (some ⟨g,0,none⟩) l.length cap,.int .i64 i,.slice (some ⟨vb,0,none⟩) 1 1] w fun e w'=> ∃v',e= .returned v'∧aM bC 26 I w' B v' (l.take i++x::l.drop i)∧w.grownBy w' (some g):=by
 obtain⟨i0,Cw,lD,oQ,uR⟩:=info_parts Pw;obtain⟨xs,⟨mP,bJ⟩,hL⟩:=hv;rcases bJ with⟨h0,_⟩|⟨g',cap',cur,h1,Cx,hg,Ob,Ar,iY,qJ⟩
 ·cases h0
 injection h1 with uK h1b Mg
 injection uK with uK
 injection uK with uK
 subst uK Mg;have eU:(Tryz.prog.info? 26).map (·.size)=some 7:=by rw[Cw];simp[oQ]
 have uL:news.length=7:=bC.len hx;have vZ:=bC.one hx;have ui:xs.length=l.length*7:=mP;have lv:cur.size=cap*7:=iY;have mg:cur.toList.take xs.length=xs:=by rw[mP];exact qJ
 have hgw:g<w.heap.size:=(Qg hg);have hvw:vb<w.heap.size:=(Qg pX);have pG:∀(j:Nat) u,xs[j]?=some u→w.cell? ⟨g,j,none⟩=some u:=fun j u hj=>by
  rw[←mg,List.getElem?_take]at hj;split at hj
  ·rw[cell_of_row w g _ cur _ _ hg,←Array.getElem?_toList];exact hj
  ·cases hj
 have hold:(Builtin.firstCells i0.size i (.slice (some ⟨g,0,none⟩) i cap)).run Tryz.prog w.drew= .ok (xs.take (i*7)).toArray w.drew:=
  run_firstCells_some w.drew i0.size i ⟨g,0,none⟩ i cap (xs.take (i*7)) (by rw[oQ,List.length_take];omega) (fun j u hj=>by
   rw[Addr.add_lit,Nat.zero_add];rw[List.getElem?_take]at hj;split at hj
   ·exact pG j u hj
   ·cases hj)
 obtain⟨G,hG⟩:∃G,G=grownCap w (l.length+1) cap 26:=⟨_,rfl⟩;have hGn:l.length+1≤G:=by rw[hG];exact grownCap_ge w _ _ _
 have aai:G≤9223372036854775807:=by
  have:=grownCap_le_maxLen w (l.length+1) cap 26 (by unfold maxLen;omega);rw[←hG]at this;unfold maxLen at this;omega
 obtain⟨z,hz⟩:∃z,i0.zero=some z:=⟨_,lD⟩;have EQ:z.cells.size=7:=by rw[hz]at lD;cases lD;rfl
 obtain⟨ROW,xq⟩:∃ROW:Array Value,ROW=(xs.take (i*7)).toArray++Builtin.zeroCells z.cells (l.length+1-i)++Builtin.zeroCells z.cells (G-(l.length+1)):=⟨_,rfl⟩;have hRs:ROW.size=G*7:=by
  rw[xq,Array.size_append,Array.size_append,size_zeroCells,size_zeroCells,EQ];simp;omega
 have Pp:ROW.toList.take (i*7)=xs.take (i*7):=by
  rw[xq,Array.toList_append,Array.toList_append,List.append_assoc,List.take_append_of_le_length (by simp;omega),List.take_of_length_le (by simp;omega)]
 have RP:∀ty,(Builtin.append_ #[33,3] ty #[.slice (some ⟨g,0,none⟩) i cap,.int .i64 ((l.length:Int)+1-(i:Int))]).run Tryz.prog w=
  .ok (.slice (some ⟨w.heap.size,0,none⟩) (l.length+1) G) (w.drew.alloc (.cells ROW 26)):=fun ty=>by
  have h:=Lib.run_append_grow_zeros w 33 3 ty 26 i0 z .i64 .i64 Tryz.underlying33 Tryz.underlying3 Cw hz (some ⟨g,0,none⟩) i cap (xs.take (i*7)) hold (l.length+1-i) (by omega) (by rw[oQ];omega) (by omega) (by omega) (by rw[uR];omega) (by rw[uR,show i+(l.length+1-i)=l.length+1 by omega];exact growslice_fits pu iW);rw[show i+(l.length+1-i)=l.length+1 by omega,←hG,←xq]at h;rw[show(l.length:Int)+1-(i:Int)=((l.length+1-i:Nat):Int) by omega];exact h
 obtain⟨jr,qM⟩:∃c,c=over ROW (i*7) news:=⟨_,rfl⟩;have oV:jr.size=ROW.size:=by rw[qM];exact CG _ _ _ (by omega)
 obtain⟨oJ,qN⟩:∃c,c=over jr (i*7+7) (xs.drop (i*7)):=⟨_,rfl⟩;have Aw:oJ.size=jr.size:=by rw[qN];exact CG _ _ _ (by rw[List.length_drop];omega)
 have iX:oJ.toList.take ((l.length+1)*7)=xs.take (i*7)++news++xs.drop (i*7):=by
  have:=Xim ROW xs news (i*7) 7 (by omega) Pp uL (by omega);rw[←qM,←qN]at this;rw[show(l.length+1)*7=xs.length+7 by omega];exact this
 obtain⟨W1,ER⟩:∃W1,W1=w.drew.alloc (.cells ROW 26):=⟨_,rfl⟩;have Mh:W1.heap[w.heap.size]?=some (.cells ROW 26 (0,0)):=by rw[ER];exact heap_alloc_new w.drew _
 have Mi:∀b,b<w.heap.size→W1.heap[b]?=w.heap[b]? :=fun b hb=>by rw[ER];exact Below.heap_alloc w.drew _ b hb
 rw[←ER]at RP;have Mj:∀ty dc,(Builtin.copy_ #[33,33] ty #[.slice (some ⟨w.heap.size,i*7,none⟩) (l.length+1-i) dc,.slice (some ⟨vb,0,none⟩) 1 1]).run Tryz.prog W1= .ok (goInt 1) (W1.setRow w.heap.size jr):=fun ty dc=>by
  have h:=Fg (P:=Tryz.prog) W1 33 33 ty 26 7 w.heap.size (i*7) (l.length+1-i) dc ⟨vb,0,none⟩ 1 1 ROW 26 news Tryz.underlying33 eU Mh (by rw[uL];simp only[Nat.min_def];split<;>omega)
   (fun j u hj=>by
     rw[Addr.add_lit,Nat.zero_add,cell_of_row _ vb j _ _ _ ((Mi vb hvw).trans pX)];simpa using hj) (by omega) vZ
  rw[h,show Nat.min 1 (l.length+1-i)=1 by simp only[Nat.min_def];split<;>omega,qM];rfl
 have Kt:(W1.setRow w.heap.size jr).heap[w.heap.size]?=some (.cells jr 26 (0,0)):=setRow_heap W1 w.heap.size ROW jr _ _ Mh;have Mk:∀ty dc sc,(Builtin.copy_ #[33,33] ty #[.slice (some ⟨w.heap.size,(i+1)*7,none⟩) (l.length-i) dc,.slice (some ⟨g,i*7,none⟩) (l.length-i) sc]).run Tryz.prog (W1.setRow w.heap.size jr).drew= .ok (goInt ((l.length-i:Nat):Int)) ((W1.setRow w.heap.size jr).drew.setRow w.heap.size oJ):=fun ty dc sc=>by
  have h:=Fg (P:=Tryz.prog) (W1.setRow w.heap.size jr).drew 33 33 ty 26 7 w.heap.size ((i+1)*7) (l.length-i) dc ⟨g,i*7,none⟩ (l.length-i) sc jr 26 (xs.drop (i*7)) Tryz.underlying33 eU Kt (by rw[List.length_drop];simp only[Nat.min_def];split<;>omega)
   (fun j u hj=>by
     rw[Addr.add_lit];rw[List.getElem?_drop]at hj;have hgg:(W1.setRow w.heap.size jr).heap[g]?=some (.cells cur 26 (0,0)):=by rw[setRow_other _ _ _ _ (by omega),Mi g hgw];exact hg
     rw[World.cell?_drew,cell_of_row _ g _ cur _ _ hgg,←cell_of_row w g _ cur _ _ hg];exact pG _ u hj) (by rw[List.length_drop];omega) (fun u hu=>hL.oneCell u (List.mem_of_mem_drop hu))
  rw[h,show Nat.min (l.length-i) (l.length-i)=l.length-i by simp only[Nat.min_def];split<;>omega,qN];rw[show(i+1)*7=i*7+7 by omega];rfl
 have sU:=Qh (show(xs.take (i*7)++news++xs.drop (i*7)).length=(l.length+1)*7 by simp;omega);have zF:=Qh (show oJ.size=G*7 by omega);have nM:=Qh iX;have HL:=Qh hL;have Hx:=Qh hx;have WH:=Qh Kt;have HW1:=Qh ER;have au:¬(G=i+1):=by omega
 have aD:¬(G=i):=by omega
 have bU:¬(cap=i):=by omega
 clear iX hL hx Kt Mh qM qN xq hRs Pp mP ui iY lv qJ mg uL vZ pX Ar hg hold pG Mi ER hG hz lD EQ oV Aw;have uF:IntKind.i64.wrap ((i:Int)+1)=(i:Int)+1:=IntWalk.i64_in _ (by omega);have yY:0≤(i:Int)+1:=by omega
 have oF:((i:Int)+1).toNat=i+1:=by omega
 have Bg:i≤l.length:=by omega
 have II:(i:Int)≤(l.length:Int)+1:=by omega
 go_enter Tryz.func86,Tryz.ntmps86
 go_wp2_with (first
  |(at_builtin;refine Lib.wpList_append_run _ rfl _ _ _ _ rfl _ _ rfl rfl _ _ (RP _) ?_)
  |(at_builtin;refine wpList_copy_runI _ rfl _ _ 33 33 rfl _ _ rfl rfl (Mj _ _) ?_))
 go_region_law (refine step_copy_runI rfl _ _ 33 33 rfl _ _ (by simp[Act.eval,Act.put]) (by simp[Act.eval,Act.put]) (Mk _ _ _) ?_)
 go_wp2;go_ret;have EP:(l.take i++x::l.drop i).length=l.length+1:=by simp;omega
 refine⟨_,rfl,?_,?_⟩
 ·unfold aM;rw[EP];refine⟨xs.take (i*7)++news++xs.drop (i*7),⟨sU.O,.inr ⟨w.heap.size,G,oJ,rfl,hB,setRow_heap _ w.heap.size jr oJ _ _ WH.O,hGn,by unfold maxLen;omega,zF.O,nM.O⟩⟩,?_⟩;have:=((HL.O.take i).append (bR.one Hx.O)).append (HL.O.drop i);rwa[show l.take i++[x]++l.drop i=l.take i++x::l.drop i by simp]at this
 ·rw[HW1.O];exact⟨rfl,rfl,rfl,by simp,fun k hk _=>by
   rw[setRow_other _ _ _ _ (by omega)];show((w.drew.alloc (.cells ROW 26)).setRow w.heap.size jr).heap[k]?=_;rw[setRow_other _ _ _ _ (by omega)];exact Below.heap_alloc w.drew _ k hk⟩
theorem Xrs(I:IH)(B:Nat)(v:Value)(l:List _)(x:_)(vb i:Nat)(tb:TypeId)(news:List Value)(w:World)(hv:aM bC 26 I w B v l)(hx:bC.rd I news x)
 (pX:w.heap[vb]?=some (.cells news.toArray tb (0,0))) (cK:v.ownBlock≠some vb) (hi:i≤l.length) (iW:(l.length+1)*112≤140737488355328) (hB:B≤w.heap.size):
 Calls Tryz.prog 86 #[v,.int .i64 i,.slice (some ⟨vb,0,none⟩) 1 1] w fun e w'=> ∃v',e= .returned v'∧aM bC 26 I w' B v' (l.take i++x::l.drop i)∧w.grownBy w' v.ownBlock:=by
 by_cases he:i=l.length
 ·subst he;rw[List.take_length,List.drop_length];exact Xjp I B v l x vb news w hv hx (fun j u hj=>by rw[cell_of_row w vb j _ _ _ pX];simpa using hj) iW hB
 ·have jI:∃g cap,v= .slice (some ⟨g,0,none⟩) l.length cap∧cap≤maxLen:=by
   obtain⟨xs,⟨_,bJ⟩,_⟩:=hv;rcases bJ with⟨_,h⟩|⟨g,cap,cur,h1,_,_,_,h3,_⟩
   ·omega
   ·exact⟨g,cap,h1,h3⟩
  obtain⟨g,cap,rfl,il⟩:=jI;by_cases hr:l.length+1≤cap
  ·exact Xhf I B g cap i l x vb tb news w hv hx pX (fun e=>cK (by rw[e];rfl)) (by omega) hr (by unfold maxLen at il;omega)
  ·exact Xix I B g cap i l x vb tb news w hv hx pX (by omega) (by omega) iW hB
theorem Xn5(w:World)(t e ty:TypeId)(z:Value)(ht:P.underlying t=some (.slice e))(hv:∀w,(zeroValue e).run P w= .ok z w)(g o n c:Nat)(h1:∀u∈(Builtin.zeroCells z.cells n).toList,u.oneCell'=true)(hn:0<n)(cur:Array Value)(tt:TypeId)
 (hg:w.heap[g]?=some (.cells cur tt (0,0))) (nk:o+n*z.cells.size≤cur.size):
 (Builtin.clear_ #[t] ty #[.slice (some ⟨g,o,none⟩) n c]).run P w= .ok (.tuple #[]) (w.setRow g (cur.toList.take o++(Builtin.zeroCells z.cells n).toList++cur.toList.drop (o+n*z.cells.size)).toArray):=by
 have hl:(Builtin.zeroCells z.cells n).toList.length=n*z.cells.size:=by rw[Array.length_toList,size_zeroCells]
 have fO:=run_storeCells_at (P:=P) g o tt (Builtin.zeroCells z.cells n).toList 0 cur w hg (by rw[hl];omega) h1;rw[hl]at fO;simp only[Nat.add_zero]at fO;obtain⟨m,rfl⟩:∃m,n=m+1:=⟨n-1,by omega⟩;simp[Builtin.clear_,run_underlying ht,hv,fO]
theorem WO{ops:Array Oper}{rest:List Oper}{op:Oper}{a:Act}{Q:Exit→Act→World→Prop}(Cj:op.guard=none)(ty:TypeId)(x y:Operand)(ho:op.op= .store ty x y)
 (g o:Nat) (cs:List Value) (hx:a.eval x= .pointer (some ⟨g,o,none⟩)) (hy:a.eval y= .agg cs.toArray) (cur:Array Value) (tt:TypeId)
 (hg:w.heap[g]?=some (.cells cur tt (0,0))) (nk:o+cs.length≤cur.size) (hi:(P.info? ty).map (·.size)=some cs.length) (h1:∀v∈cs,v.oneCell'=true)
 (h:wpList P ops Q rest (a.put op.dst undef) (w.setRow g (over cur o cs))):wpList P ops Q (op::rest) a w:=by
 refine wpList_plain Cj fun _ hK=> ?_;have fO:=run_storeCells_at (P:=P) g o tt cs 0 cur w hg (by simpa using nk) h1;have Oh:(storeVar ty ⟨g,o,none⟩ (.agg cs.toArray)).run P w= .ok () (w.setRow g (over cur o cs)):=by
  cases hq:P.info? ty with
  |none=>simp[hq]at hi
  |some i=>
   have hs:cs.length=i.size:=by simp[hq]at hi;omega
   simp only[Nat.add_zero]at fO;simp[storeVar,sizeOf,typeInfo,hq,Value.cells,hs,fO,over]
 unfold Oper.wp execOp;simp only[ho,hx,hy,Instr.storeAt,Instr.sureAddr,Sem.run_bind,Sem.run_pure,Result.andThen_ok,Oh];exact hK _ _ h
theorem Xs6(cur:Array Value)(o m:Nat)(cs:List Value)(h:o+cs.length≤m)(ho:o≤cur.size):(over cur o cs).toList.drop m=cur.toList.drop m:=by
 simp only[over];rw[List.drop_append,List.drop_eq_nil_of_le (by simp;omega),List.nil_append,List.drop_drop];congr 1;simp;omega
theorem WQ{B:Nat}{w':World}{r:Option Nat}(h:Below B w w')(hB:w.heap.size≤B):w.grownBy w' r:=
 ⟨h.os,h.tape,h.output,h.size,fun k hk _=>h.block k (by omega)⟩
structure rC (I:IH) (gb:Nat) (cur:Array Value) (w0:World) (F:List ay) (j:Nat) (X:World):Prop where
 mW:∃arr,X.heap[gb]?=some (.cells arr 26 (0,0))∧arr.size=cur.size∧bR bC I (arr.toList.take (F.length*7)) F∧arr.toList.drop (j*7)=cur.toList.drop (j*7)
 grown:w0.grownBy X (some gb)
section
variable {I:IH} {gb j:Nat} {cur:Array Value} {w0 X X':World} {F:List ay}
theorem rC.pass(h:rC I gb cur w0 F j X)(hb:Below X.heap.size X X'):rC I gb cur w0 F j X':=by
 obtain⟨arr,h1,h2⟩:=h.mW;have hlt:gb<X.heap.size:=(Qg h1);refine⟨⟨arr,(hb.block _ hlt).trans h1,h2⟩,?_⟩;exact⟨hb.os.trans h.grown.os,hb.tape.trans h.grown.tape,hb.output.trans h.grown.output,Nat.le_trans h.grown.size hb.size,fun k hk cK=>(hb.block k (Nat.lt_of_lt_of_le hk h.grown.size)).trans (h.grown.block k hk cK)⟩
theorem rC.next(h:rC I gb cur w0 F j X):rC I gb cur w0 F (j+1) X:=by
 obtain⟨arr,h1,h2,h3,h4⟩:=h.mW;refine⟨⟨arr,h1,h2,h3,?_⟩,h.grown⟩;rw[show(j+1)*7=j*7+7 by omega,←List.drop_drop,h4,List.drop_drop]
theorem rC.put{arr:Array Value}(h:rC I gb cur w0 F j X)(h1:X.heap[gb]?=some (.cells arr 26 (0,0)))(x:ay)(cs:List Value)(iY:bC.rd I cs x)(hF:F.length≤j)(hj:j*7+7≤cur.size):
 rC I gb cur w0 (F++[x]) (j+1) (X.setRow gb (over arr (F.length*7) cs)):=by
 obtain⟨akm,EE,h2,h3,h4⟩:=h.mW;rw[h1]at EE;cases EE;have iK:cs.length=7:=bC.len iY;refine⟨⟨_,setRow_heap _ _ _ _ _ _ h1,by rw[CG _ _ _ (by omega),h2],?_,?_⟩,Nb h.grown Bp⟩
 ·rw[List.length_append,List.length_singleton,show(F.length+1)*7=F.length*7+cs.length by omega,VG _ _ _ (by omega)];exact h3.append (bR.one iY)
 ·rw[Xs6 _ _ _ _ (by omega) (by omega),show(j+1)*7=j*7+7 by omega,←List.drop_drop,h4,List.drop_drop]
theorem rC.cell(h:rC I gb cur w0 F j X)(q:Nat)(hq:j*7≤q):X.cell? ⟨gb,q,none⟩=cur[q]? :=by
 obtain⟨arr,h1,h2,h3,h4⟩:=h.mW;rw[cell_of_row X gb q _ _ _ h1,←Array.getElem?_toList,←Array.getElem?_toList];have e1:=congrArg (fun L=>L[q-j*7]?) h4;simp only[List.getElem?_drop]at e1;rwa[show j*7+(q-j*7)=q by omega]at e1
end
theorem Xw8:∀w,(zeroValue 26).run Tryz.prog w= .ok (.agg aC) w:=Tryz.zeroValue26
theorem Xnc(n:Nat):∀u∈(Builtin.zeroCells (Value.agg aC).cells n).toList,u.oneCell'=true:=by
 intro u hu;simp only[Builtin.zeroCells,Value.cells]at hu;rw[Array.mem_toList_iff,Array.mem_map]at hu;obtain⟨i,_,rfl⟩:=hu;have h7:i%aC.size<7:=Nat.mod_lt _ (by decide);rcases(show i%aC.size=0∨i%aC.size=1∨i%aC.size=2∨i%aC.size=3∨i%aC.size=4∨i%aC.size=5∨i%aC.size=6 by omega)with h|h|h|h|h|h|h<;>rw[h]<;>rfl
theorem Xeg(I:IH)(B:Nat)(v:Value)(l:List ay)(w:World)(hv:aM bC 26 I w B v l)(hn:l.length≤1000000)(g:Nat)(cb:Array Value)(p:ay→Bool)(hw:Ok I w)(hI:∀b,B≤b→I b=none)(_hB:B≤w.heap.size)(eg:∀args w,(callFunc g args).run Tryz.prog w= .ok (.enter g args) w)(hp:yz g cb l p (fun W=>w.grownBy W v.ownBlock)):
 Calls Tryz.prog 80 #[v,.func (.func g) #[] cb] w fun e w'=> ∃v',e= .returned v'∧aM bC 26 I w' B v' (l.filter fun x=> !(p x))∧w.grownBy w' v.ownBlock:=by
 obtain⟨I',jo,jA,kG,hI4⟩:=hv.freeze hw hI;have hpa:yz g cb l p (Below w.heap.size w):=fun x hx a1 a2 c1 c2 W hW=>hp x hx a1 a2 c1 c2 W (WQ hW (Qn _));have hlen:=kG.dh;have Hp:=Qh hp;have wO:=Qh (Xe9 I' v l kG g cb p w jA eg hpa);have Heg:=Qh eg;have HI3:=Qh kG;have Hv:=Qh hv;clear hp hpa eg kG;have Db:∃ao cap,v= .slice ao l.length cap∧cap≤9223372036854775807:=by
  obtain⟨ao,cap,e,_,il,_⟩:=id HI3.O;exact⟨ao,cap,e,by unfold maxLen at il;omega⟩
 obtain⟨ao,cap,rfl,il⟩:=Db;rcases IE l p with⟨i,hi,e1,e2,e3⟩|⟨e1,e2⟩
 ·have aZ:∃gb cur,ao=some ⟨gb,0,none⟩∧B≤gb∧w.heap[gb]?=some (.cells cur 26 (0,0))∧l.length≤cap∧cur.size=cap*7∧bR bC I (cur.toList.take (l.length*7)) l:=by
   obtain⟨xs,⟨_,h1⟩,hL⟩:=Hv.O;rcases h1 with⟨_,h0⟩|⟨gb,cap',cur,e,r1,r2,r3,r4,r5,r6⟩
   ·omega
   ·cases e;refine⟨gb,cur,rfl,r1,r2,r3,r5,?_⟩;have WR:cur.toList.take (l.length*7)=xs:=r6;rw[WR];exact hL
  obtain⟨gb,cur,rfl,Cx,um,hlc,iY,hL⟩:=aZ;rw[e1]at wO;have lM:((i:Int)== -1)=false:=by rw[beq_eq_false_iff_ne];omega
  have WS:((l.take (i+1)).filter fun x=> !(p x))=l.take i:=by
   rw[List.take_succ_eq_append_getElem hi,List.filter_append];have:((l.take i).filter fun x=> !(p x))=l.take i:=List.filter_eq_self.2 fun x hx=>by
    cases hpx:p x with
    |false=>rfl
    |true=>rw[List.any_eq_true.2 ⟨x,hx,hpx⟩]at e3;exact absurd e3 (by simp)
   rw[this];simp[e2]
  have lC:∀j (h:j<l.length),∃a1 a2 c1 c2,bf kT I (.slice a1 l[j].ai.length c1) l[j].ai∧bf mE I (.slice a2 l[j].ak.length c2) l[j].ak∧ ∀q u,(dB l[j] (.slice a1 l[j].ai.length c1) (.slice a2 l[j].ak.length c2))[q]?=some u→cur[j*7+q]?=some u:=by
   intro j hj;obtain⟨cs,⟨va,vx,iY,h1,h2⟩,hc⟩:=hL.2 j hj;obtain⟨a1,c1,rfl,_,_,_⟩:=id h1;obtain⟨a2,c2,rfl,_,_,_⟩:=id h2;refine⟨a1,a2,c1,c2,h1,h2,fun q u hu=> ?_⟩;have h3:=hc q u (by rw[iY];exact hu);have hs:bC.size=7:=rfl;rw[hs,List.getElem?_take]at h3;split at h3
   ·rw[←Array.getElem?_toList];exact h3
   ·cases h3
  have Px:=Qh lC;have JJ:∀X,Below w.heap.size w X→rC I gb cur w ((l.take (i+1)).filter fun x=> !(p x)) (i+1) X:=by
   intro X hX;have hlt:gb<w.heap.size:=(Qg um);refine⟨⟨cur,(hX.block _ hlt).trans um,rfl,?_,rfl⟩,WQ hX (Qn _)⟩;rw[WS,List.length_take,Nat.min_eq_left (by omega)];have:=hL.take i;have hs:bC.size=7:=rfl;rwa[hs,List.take_take,Nat.min_eq_left (by omega)]at this
  have Hm0:=Qh JJ;have WT:((l.take (i+1)).filter fun x=> !(p x)).length=i:=by rw[WS,List.length_take];omega
  have WU:=Qh WT;have lI:(Tryz.prog.info? 26).map (·.size)=some 7:=by kernel_rfl
  have BH:=Qh lI;clear e1 e2 e3 WS lC JJ WT hL um hI4 hv lI;go_enter Tryz.func80,Tryz.ntmps80
  go_wp2_with fail
  refine wO.O.mono ?_;rintro e w1 ⟨rfl,au⟩;have IA:=Qh (Hm0.O w1 au);clear au Hm0;go_wp2_with fail
  go_loopw [5,6] (fun s5 s6 X=> ∃(j:Nat) (F:List ay),i+1≤j∧j≤l.length∧s6= .int .i64 j∧s5= .int .i64 F.length∧F.length<j∧F=((l.take j).filter fun x=> !(p x))∧rC I gb cur w F j X) (fun _ j _=>l.length-(intOf j).toNat)
  case atStart=>exact⟨i+1,_,Qn _,hi,by go_num,by rw[WU.O],by rw[WU.O];omega,rfl,IA.O⟩
  case round=>
   clear IA WU;obtain⟨j,F,JE,vX,rfl,rfl,hFj,hF,hm⟩:=hrel;have HF:=Qh hF;have Hm:=Qh hm;clear hF hm;by_cases hlt:j<l.length
   ·obtain⟨a1,a2,c1,c2,h1,h2,hc⟩:=Px.O j hlt;obtain⟨x,bN⟩:∃x,l[j]=x:=⟨_,rfl⟩;have uS:x∈l:=by rw[←bN];exact List.getElem_mem hlt
    rw[bN]at h1 h2 hc;have mM:=(Hm.O.cell (j*7) (Qn _)).trans (hc 0 _ rfl);have qX:=(Hm.O.cell (j*7+1) (by omega)).trans (hc 1 _ rfl);have tH:=(Hm.O.cell (j*7+2) (by omega)).trans (hc 2 _ rfl);have Mm:=(Hm.O.cell (j*7+3) (by omega)).trans (hc 3 _ rfl);have hc4:=(Hm.O.cell (j*7+4) (by omega)).trans (hc 4 _ rfl);have Py:=(Hm.O.cell (j*7+5) (by omega)).trans (hc 5 _ rfl);have hc6:=(Hm.O.cell (j*7+6) (by omega)).trans (hc 6 _ rfl);have H12:=Qh (show bC.rd I (dB x (.slice a1 x.ai.length c1) (.slice a2 x.ak.length c2)) x from⟨_,_,rfl,h1,h2⟩);have bB:=Qh (show((l.take (j+1)).filter fun x=> !(p x))=F++(if p x then []else [x]) by
     rw[List.take_succ_eq_append_getElem hlt,bN,List.filter_append,←HF.O];cases h:p x<;>simp[h])
    have kJ:=Qh (Hp.O x uS a1 a2 c1 c2);clear bN hc uS h1 h2;have eg:=Heg.O;go_wp2_with fail
    have WV:=Hm.O.pass ((Qb _ wr).alloc (Qn _) (.cells #[.int .i64 x.ag,S x.af,.slice a1 x.ai.length c1,S x.target,.int .i64 x.size,S x.aj,.slice a2 x.ak.length c2] 26));refine(kJ.O _ WV.grown).mono ?_;rintro e w4 ⟨rfl,aL⟩;obtain⟨d0,d1,d2,d3,d4,d5,d6⟩:=bS rfl aL;have Fw:=Qh (WV.pass aL);have dH:gb<w4.heap.size:=by
     obtain⟨arr,h1,_⟩:=Fw.O.mW;exact(Qg h1)
    clear WV aL mM qX tH Mm hc4 Py hc6 eg;cases hpx:p x
    ·have gN:=Qh (show F++[x]=((l.take (j+1)).filter fun x=> !(p x)) by rw[bB.O,hpx];simp);obtain⟨arr,Aq,uG,_⟩:=Fw.O.mW;have Kz:=Qh Aq;have nk:F.length*7+7≤arr.size:=by omega
     have WT:F.length<l.length:=by omega
     clear hpx Aq uG;go_wp2_with (refine WO rfl 26 _ _ rfl gb (F.length*7) (dB x (.slice a1 x.ai.length c1) (.slice a2 x.ak.length c2)) (by simp[Act.eval]) rfl arr 26 Kz.O nk BH.O (bC.one H12.O) ?_)
     go_roundw;case rel=>exact⟨j+1,F++[x],by omega,by omega,by go_num,(by rw[List.length_append,List.length_singleton];go_num),(by rw[List.length_append,List.length_singleton];omega),gN.O,Fw.O.put Kz.O x _ H12.O (by omega) (by omega)⟩
     case measure=>simp[intOf];omega
    ·have gN:=Qh (show F=((l.take (j+1)).filter fun x=> !(p x)) by rw[bB.O,hpx];simp);clear hpx;go_wp2;go_roundw;case rel=>exact⟨j+1,F,by omega,by omega,by go_num,rfl,by omega,gN.O,Fw.O.next⟩
     case measure=>simp[intOf];omega
   ·have hje:j=l.length:=by omega
    have HF2:=Qh (show F=l.filter fun x=> !(p x) by rw[HF.O,List.take_of_length_le (by omega)]);obtain⟨arr,Aq,uG,CE,Fx⟩:=Hm.O.mW;have adi:F.length<l.length:=by omega
    have Ob:¬F.length=cap:=by omega
    have iK:=fun ty=>Xn5 (P:=Tryz.prog) wr 33 26 ty _ Tryz.underlying33 Xw8 gb (F.length*7) (l.length-F.length) (cap-F.length) (Xnc _) (by omega) arr 26 Aq (by show F.length*7+(l.length-F.length)*7≤arr.size;omega);have WW:=Qh (show arr.size=cur.size∧bR bC I (arr.toList.take (F.length*7)) F from⟨uG,CE⟩);have Kz:=Qh Aq;have sZ:=Hm.O.grown;clear Aq uG CE Fx hje;go_wp2_with fail
    go_ret;have hzl:(Builtin.zeroCells aC (l.length-F.length)).toList.length=(l.length-F.length)*7:=by rw[Array.length_toList,size_zeroCells];rfl
    obtain⟨uG,CE⟩:=WW.O;have oW:arr.toList.length=cap*7:=by rw[Array.length_toList,uG,iY]
    rw[←HF2.O];refine⟨_,rfl,⟨_,⟨CE.1,.inr ⟨gb,cap,_,rfl,Cx,setRow_heap _ _ _ _ _ _ Kz.O,by omega,by unfold maxLen;omega,?_,?_⟩⟩,CE⟩,Nb sZ Bp⟩
    ·rw[List.size_toArray,List.length_append,List.length_append,hzl,List.length_take,List.length_drop,oW];show min (F.length*7) (cap*7)+((l.length-F.length)*7+(cap*7-(F.length*7+(l.length-F.length)*7)))=cap*7;omega
    ·show((arr.toList.take (F.length*7)++_).toArray).toList.take (F.length*7)=arr.toList.take (F.length*7);rw[List.toList_toArray,List.take_append_of_le_length (by rw[List.length_take,oW];omega),List.take_take,Nat.min_self]
 ·rw[e1]at wO;have Hf:=Qh (show(l.filter fun x=> !(p x))=l from List.filter_eq_self.2 fun x hx=>by
   cases hpx:p x with
   |false=>rfl
   |true=>rw[List.any_eq_true.2 ⟨x,hx,hpx⟩]at e2;exact absurd e2 (by simp))
  clear e1 e2 hv hI4;go_enter Tryz.func80,Tryz.ntmps80
  go_wp2_with fail
  refine wO.O.mono ?_;rintro e w1 ⟨rfl,au⟩;go_wp2;go_ret;exact⟨_,rfl,by rw[Hf.O];exact Hv.O.below au,WQ au (Qn _)⟩
def gz(e:ay)(x:ay):Bool:=decide (e.ag=4)&&under x.af e.af
theorem Xnh(I:IH)(hI:dG I)(e:ay)(yS:e.af.length≤4294967280)(be:Nat)(ve vy:Value)(l:List ay)(hl:pJ l)(C:World→Prop)(hC:∀W,C W→Ok I W∧aW W be e ve vy):
 yz 78 #[.pointer (some ⟨be,0,none⟩)] l (gz e) C:=by
 intro x hx a1 a2 c1 c2 W hW;obtain⟨gK,hB⟩:=hC W hW;have Hu:=Qh (fun w hw=>VW I hI x.af e.af (hl x hx).1 yS w hw);obtain⟨c0,d1,d2,d3,d4,d5,d6⟩:=aW.past hB (.cells #[.int .i64 x.ag,S x.af,.slice a1 x.ai.length c1,S x.target,.int .i64 x.size,S x.aj,.slice a2 x.ak.length c2] 26);clear hB hC d2 d3 d4 d5 d6;by_cases hk:e.ag=4
 ·have k1:((e.ag:Int)==4)=true:=by simpa using hk
  have Hn:=Qh (show gz e x=under x.af e.af by rw[gz,Qt hk];rfl);clear hk;go_enter Tryz.func78,Tryz.ntmps78
  go_wp2_with fail
  refine(Hu.O _ (gK.alloc _)).mono ?_;rintro e w1 ⟨rfl,au⟩;go_wp2;go_ret;exact⟨gZ Hn.O.symm,((Qb _ _).alloc (Qn _) _).trans (au.mono (by simp))⟩
 ·have k1:((e.ag:Int)==4)=false:=by simpa using hk
  have Hn:=Qh (show gz e x=false by rw[gz,Qf hk];rfl);clear hk;go_enter Tryz.func78,Tryz.ntmps78
  go_wp2;go_ret;exact⟨gZ Hn.O.symm,(Qb _ _).alloc (Qn _) _⟩
theorem Xng(I:IH)(hI:dG I)(x:ay)(hx:x.af.length≤4294967280)(a1 a2:Option Addr)(c1 c2:Nat)(p:ae)(hp:p.length≤4294967280)(W:World)(hW:Ok I W):
 Calls Tryz.prog 85 #[eT x (.slice a1 x.ai.length c1) (.slice a2 x.ak.length c2),S p] W fun e w'=>e= .returned (.int .i64 (ic x.af p))∧Below W.heap.size W w':=by
 have Hc:=Qh (fun w hw=>Td I hI x.af p hx hp w hw);go_enter Tryz.func85,Tryz.ntmps85
 go_wp2_with fail
 refine(Hc.O _ (hW.alloc _)).mono ?_;rintro e w1 ⟨rfl,au⟩;go_wp2;go_ret;exact⟨rfl,((Qb _ _).alloc (Qn _) _).trans (au.mono (by simp))⟩
def WX(w:World)(n:Nat)(e:Ending)(w':World):Prop:=∃b:Bool,e= .returned (.tuple #[.int .i64 n,.bool b])∧Below w.heap.size w w'
theorem Xeh(I:IH)(hI:dG I)(v:Value)(l:List ay)(hv:bf bC I v l)(hn:l.length≤1000000)(hl:pJ l)(p:ae)(hp:p.length≤4294967280)(w:World)(hw:Ok I w):
 Calls Tryz.prog 84 #[v,S p,.func (.func 85) #[] #[]] w (WX w (bs (gF l p) 0 l.length)):=by
 obtain⟨ao,cap,rfl,dD,il,_⟩:=id hv;have Hv:=Qh hv;clear hv;have Hl:=Qh hl;clear hl;have eg:∀args w,(callFunc 85 args).run Tryz.prog w= .ok (.enter 85 args) w:=fun _ _=>by kernel_rfl
 obtain⟨N,hN⟩:∃N,bs (gF l p) 0 l.length=N:=⟨_,rfl⟩;have HN:=Qh hN;rw[hN];clear hN;go_enter Tryz.func84,Tryz.ntmps84
 go_wp2_with fail
 go_loopw [9,10] (fun s9 s10 wr=> ∃lo hi:Nat,s9= .int .i64 lo∧s10= .int .i64 hi∧lo≤hi∧hi≤l.length∧bs (gF l p) lo hi=N∧Below w.heap.size w wr) (fun a b _=>(intOf b).toNat-(intOf a).toNat)
 case atStart=>exact⟨0,l.length,rfl,rfl,Nat.zero_le _,Qn _,HN.O,Qb _ _⟩
 case round=>
  clear HN;obtain⟨lo,hi,rfl,rfl,hlh,RO,hr,hb⟩:=hrel;have Hr:=Qh hr;clear hr;have dz:Ok I wr:=hw.below (Qn _) hb;by_cases hlt:lo<hi
  ·obtain⟨x,va,vx,b,off,cap',bN,di,⟨c0,c1,c2,c3,c4,c5,c6⟩,h1,h2⟩:=oG Hv.O dz ((lo+hi) / 2) (by omega);cases di;obtain⟨aa,ca,rfl,_,_,_⟩:=id h1;obtain⟨ax,cx,rfl,_,_,_⟩:=id h2;have Hnl:=Qh (show gF l p ((lo+hi) / 2)=!(gU (els x.af) (els p)) by rw[gF,List.getElem?_eq_getElem (by omega),bN]);have Hc:=Qh (fun W hW=>Xng I hI x (Hl.O x (by rw[←bN];exact List.getElem_mem _)).1 aa ax ca cx p hp W hW);have hj:(0:Int)≤((lo:Int)+(hi:Int)) / 2:=by omega
   have xk:((lo:Int)+(hi:Int)) / 2<(l.length:Int):=by omega
   have hm:(((lo:Int)+(hi:Int)) / 2).toNat=(lo+hi) / 2:=by omega
   have Ol:(((lo+hi) / 2:Nat):Int)=((lo:Int)+(hi:Int)) / 2:=by omega
   have Hm2:=Qh Ol;clear bN h1 h2 Ol;cases hlp:gU (els x.af) (els p)
   ·have gN:=Qh (show bs (gF l p) lo ((lo+hi) / 2)=N by rw[←Hr.O];conv=>rhs;rw[bs];rw[dif_pos hlt,Hnl.O,hlp];simp);rcases Xqs hlp with hc|hc
    all_goals
     rw[hc]at Hc;clear hc hlp;go_wp2_with fail
     refine(Hc.O _ dz).mono ?_;rintro e w1 ⟨rfl,au⟩;go_wp2;go_roundw;case rel=>exact⟨lo,(lo+hi) / 2,rfl,by rw[Hm2.O],by omega,by omega,gN.O,hb.trans (au.mono hb.size)⟩
     case measure=>simp[intOf];omega
   ·have gN:=Qh (show bs (gF l p) ((lo+hi) / 2+1) hi=N by rw[←Hr.O];conv=>rhs;rw[bs];rw[dif_pos hlt,Hnl.O,hlp];simp);rw[Xqr hlp]at Hc;clear hlp;go_wp2_with fail
    refine(Hc.O _ dz).mono ?_;rintro e w1 ⟨rfl,au⟩;go_wp2;go_roundw;case rel=>exact⟨(lo+hi) / 2+1,hi,(by rw[←Hm2.O];go_num),rfl,by omega,by omega,gN.O,hb.trans (au.mono hb.size)⟩
    case measure=>simp[intOf];omega
  ·have WY:=Qh (show lo=N by rw[←Hr.O,bs,dif_neg hlt]);by_cases lW:lo<l.length
   ·obtain⟨x,va,vx,b,off,cap',bN,di,⟨c0,c1,c2,c3,c4,c5,c6⟩,h1,h2⟩:=oG Hv.O dz lo lW;cases di;obtain⟨aa,ca,rfl,_,_,_⟩:=id h1;obtain⟨ax,cx,rfl,_,_,_⟩:=id h2;have Hc:=Qh (fun W hW=>Xng I hI x (Hl.O x (by rw[←bN];exact List.getElem_mem _)).1 aa ax ca cx p hp W hW);have hd:decide (lo<l.length)=true:=Qt lW;generalize ic x.af p=cc at Hc;clear bN h1 h2;go_wp2_with fail
    refine(Hc.O _ dz).mono ?_;rintro e w1 ⟨rfl,au⟩;go_wp2;go_ret2;rw[←WY.O];exact⟨_,rfl,hb.trans (au.mono hb.size)⟩
   ·have hd:decide (lo<l.length)=false:=Qf lW;go_wp2;go_ret2;rw[←WY.O];exact⟨_,rfl,hb⟩
