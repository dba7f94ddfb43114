/- Lemmas for the claim's theorem;conditions: as each says. -/
import Derived.Test.YtmdfjnhfhidmhaaGreatDoorJ06
import Derived.Lib.AtoiAll
import Derived.Shelf.Strings.SlTrimAscii
import Derived.Test.YtmdfjnhfhidmhaaGreatDoorProg
set_option maxHeartbeats 0
set_option maxRecDepth 100000
set_option linter.all false
namespace Go.Proofs.YtmdfjnhfhidmhaaGreatDoor
open Go.RowKit
section
variable {α:Type}
def ol(l:List α)(p:α→Bool):Int:=match l.findIdx? p with|some i=>i|none=> -1
theorem UT{l:List α}{p:α→Bool}(h:l.any p=false):ol l p= -1:=by
 have:l.findIdx? p=none:=by
  rw[List.findIdx?_eq_none_iff];intro x hx;cases hp:p x with
  |false=>rfl
  |true=>rw[List.any_eq_true.2 ⟨x,hx,hp⟩]at h;exact absurd h (by simp)
 rw[ol,this]
theorem UU{l:List α}{p:α→Bool}{i:Nat}(hi:i<l.length)(hp:p l[i]=true)(hn:(l.take i).any p=false):ol l p=i:=by
 have:l.findIdx? p=some i:=by
  rw[List.findIdx?_eq_some_iff_getElem];refine⟨hi,hp,fun j hj=> ?_⟩;cases hq:p l[j]with
  |false=>simp
  |true=>
   have xk:j<(l.take i).length:=by simp;omega
   rw[List.any_eq_true.2 ⟨(l.take i)[j],List.getElem_mem xk,by rw[List.getElem_take];exact hq⟩]at hn;exact absurd hn (by simp)
 rw[ol,this]
theorem LZ(l:List α)(p:α→Bool):(∃i:Nat,∃h:i<l.length,ol l p=i∧p l[i]=true∧(l.take i).any p=false)∨(ol l p= -1∧l.any p=false):=by
 unfold ol;cases h:l.findIdx? p with
 |none=>
  right;refine⟨rfl,?_⟩;rw[List.findIdx?_eq_none_iff]at h;cases ha:l.any p with
  |false=>rfl
  |true=>
   obtain⟨x,hx,hp⟩:=List.any_eq_true.1 ha;rw[h x hx]at hp;exact absurd hp (by simp)
 |some i=>
  left;rw[List.findIdx?_eq_some_iff_getElem]at h;obtain⟨hi,h1,h2⟩:=h;refine⟨i,hi,rfl,h1,?_⟩;cases ha:(l.take i).any p with
  |false=>rfl
  |true=>
   obtain⟨x,hx,hp⟩:=List.any_eq_true.1 ha;obtain⟨j,hj,rfl⟩:=List.getElem_of_mem hx;rw[List.getElem_take]at hp;have El:j<i:=by simp at hj;omega
   have:=h2 j El;simp[hp]at this
end
variable{c:UInt8}{n:Nat}
def eF(r:Nat):Bool:=!(bX r)
theorem Xpr(c:Nat)(w:World):Calls Tryz.prog 219 #[.int .i32 (c:Int)] w fun e w'=>e= .returned (.bool (eF c))∧w'=w:=by
 rcases(show(97≤c∧c≤122)∨122<c∨(48≤c∧c≤57)∨c=46∨c=95∨c=45∨(c<48∧c≠46∧c≠45)∨(57<c∧c<97∧c≠95) by omega)with hc|hc|hc|hc|hc|hc|hc|hc
 ·have d97:decide (97≤(c:Int))=true:=by simp;omega
  have d122:decide ((c:Int)≤122)=true:=by simp;omega
  have d48:decide (48≤(c:Int))=true:=by simp;omega
  have d57:decide ((c:Int)≤57)=false:=by simp;omega
  have n46:((c:Int)==46)=false:=by simp;omega
  have n95:((c:Int)==95)=false:=by simp;omega
  have n45:((c:Int)==45)=false:=by simp;omega
  have Hv:=Qh (show eF c=true by unfold eF bX;simp;omega);clear hc;go_enter Tryz.func219,Tryz.ntmps219
  go_wp2;go_ret;exact⟨ib Hv.O.symm,rfl⟩
 ·have d97:decide (97≤(c:Int))=true:=by simp;omega
  have d122:decide ((c:Int)≤122)=false:=by simp;omega
  have d48:decide (48≤(c:Int))=true:=by simp;omega
  have d57:decide ((c:Int)≤57)=false:=by simp;omega
  have n46:((c:Int)==46)=false:=by simp;omega
  have n95:((c:Int)==95)=false:=by simp;omega
  have n45:((c:Int)==45)=false:=by simp;omega
  have Hv:=Qh (show eF c=false by unfold eF bX;simp;omega);clear hc;go_enter Tryz.func219,Tryz.ntmps219
  go_wp2;go_ret;exact⟨ib Hv.O.symm,rfl⟩
 ·have d97:decide (97≤(c:Int))=false:=by simp;omega
  have d122:decide ((c:Int)≤122)=true:=by simp;omega
  have d48:decide (48≤(c:Int))=true:=by simp;omega
  have d57:decide ((c:Int)≤57)=true:=by simp;omega
  have n46:((c:Int)==46)=false:=by simp;omega
  have n95:((c:Int)==95)=false:=by simp;omega
  have n45:((c:Int)==45)=false:=by simp;omega
  have Hv:=Qh (show eF c=true by unfold eF bX;simp;omega);clear hc;go_enter Tryz.func219,Tryz.ntmps219
  go_wp2;go_ret;exact⟨ib Hv.O.symm,rfl⟩
 ·have d97:decide (97≤(c:Int))=false:=by simp;omega
  have d122:decide ((c:Int)≤122)=true:=by simp;omega
  have d48:decide (48≤(c:Int))=false:=by simp;omega
  have d57:decide ((c:Int)≤57)=true:=by simp;omega
  have n46:((c:Int)==46)=true:=by simp;omega
  have n95:((c:Int)==95)=false:=by simp;omega
  have n45:((c:Int)==45)=false:=by simp;omega
  have Hv:=Qh (show eF c=true by unfold eF bX;simp;omega);clear hc;go_enter Tryz.func219,Tryz.ntmps219
  go_wp2;go_ret;exact⟨ib Hv.O.symm,rfl⟩
 ·have d97:decide (97≤(c:Int))=false:=by simp;omega
  have d122:decide ((c:Int)≤122)=true:=by simp;omega
  have d48:decide (48≤(c:Int))=true:=by simp;omega
  have d57:decide ((c:Int)≤57)=false:=by simp;omega
  have n46:((c:Int)==46)=false:=by simp;omega
  have n95:((c:Int)==95)=true:=by simp;omega
  have n45:((c:Int)==45)=false:=by simp;omega
  have Hv:=Qh (show eF c=true by unfold eF bX;simp;omega);clear hc;go_enter Tryz.func219,Tryz.ntmps219
  go_wp2;go_ret;exact⟨ib Hv.O.symm,rfl⟩
 ·have d97:decide (97≤(c:Int))=false:=by simp;omega
  have d122:decide ((c:Int)≤122)=true:=by simp;omega
  have d48:decide (48≤(c:Int))=false:=by simp;omega
  have d57:decide ((c:Int)≤57)=true:=by simp;omega
  have n46:((c:Int)==46)=false:=by simp;omega
  have n95:((c:Int)==95)=false:=by simp;omega
  have n45:((c:Int)==45)=true:=by simp;omega
  have Hv:=Qh (show eF c=true by unfold eF bX;simp;omega);clear hc;go_enter Tryz.func219,Tryz.ntmps219
  go_wp2;go_ret;exact⟨ib Hv.O.symm,rfl⟩
 ·have d97:decide (97≤(c:Int))=false:=by simp;omega
  have d122:decide ((c:Int)≤122)=true:=by simp;omega
  have d48:decide (48≤(c:Int))=false:=by simp;omega
  have d57:decide ((c:Int)≤57)=true:=by simp;omega
  have n46:((c:Int)==46)=false:=by simp;omega
  have n95:((c:Int)==95)=false:=by simp;omega
  have n45:((c:Int)==45)=false:=by simp;omega
  have Hv:=Qh (show eF c=false by unfold eF bX;simp;omega);clear hc;go_enter Tryz.func219,Tryz.ntmps219
  go_wp2;go_ret;exact⟨ib Hv.O.symm,rfl⟩
 ·have d97:decide (97≤(c:Int))=false:=by simp;omega
  have d122:decide ((c:Int)≤122)=true:=by simp;omega
  have d48:decide (48≤(c:Int))=true:=by simp;omega
  have d57:decide ((c:Int)≤57)=false:=by simp;omega
  have n46:((c:Int)==46)=false:=by simp;omega
  have n95:((c:Int)==95)=false:=by simp;omega
  have n45:((c:Int)==45)=false:=by simp;omega
  have Hv:=Qh (show eF c=false by unfold eF bX;simp;omega);clear hc;go_enter Tryz.func219,Tryz.ntmps219
  go_wp2;go_ret;exact⟨ib Hv.O.symm,rfl⟩
theorem Xjt(c:Nat)(w:World):Calls Tryz.prog 218 #[.int .i32 (c:Int)] w fun e w'=>e= .returned (.bool (bX c))∧w'=w:=by
 go_enter Tryz.func218,Tryz.ntmps218
 go_wp2_with fail
 refine(Xpr c _).mono ?_;rintro e w1 ⟨rfl,rfl⟩;go_wp2;go_ret;exact⟨ib (by rw[eF,Bool.not_not]),rfl⟩
theorem Xk6(s:af)(hs:s.length≤9223372036854775807)(w:World):
 Calls Tryz.prog 177 #[S s] w fun e w'=>e= .returned (.bool (comp s))∧Below w.heap.size w w':=by
 by_cases h1:1≤s.length;case neg=>
  have ng:decide (1≤s.length)=false:=Qf h1;have o7:=Qh (show comp s=false by simp[comp,h1]);go_enter Tryz.func177,Tryz.ntmps177
  go_wp2;go_ret;exact⟨ib o7.O.symm,Qb _ _⟩
 have ng:decide (1≤s.length)=true:=Qt h1;by_cases pz:s.length≤32;case neg=>
  have rR:decide (s.length≤32)=false:=Qf pz;have o7:=Qh (show comp s=false by simp[comp,pz]);go_enter Tryz.func177,Tryz.ntmps177
  go_wp2;go_ret;exact⟨ib o7.O.symm,Qb _ _⟩
 have rR:decide (s.length≤32)=true:=Qt pz;by_cases F4:s=[46];case pos=>
  subst F4;have o7:=Qh (show comp [46]=false by rfl);clear hs h1 ng pz rR;go_enter Tryz.func177,Tryz.ntmps177
  go_wp2;go_ret;exact⟨ib o7.O.symm,Qb _ _⟩
 have f46:(s !=[46])=true:=by simpa using F4
 have WZ:(s==[46])=false:=by simpa using F4
 by_cases JB:s=[46,46];case pos=>
  subst JB;have o7:=Qh (show comp [46,46]=false by rfl);clear hs h1 ng pz rR F4 f46 WZ;go_enter Tryz.func177,Tryz.ntmps177
  go_wp2;go_ret;exact⟨ib o7.O.symm,Qb _ _⟩
 have f47:(s !=[46,46])=true:=by simpa using JB
 have g47:(s==[46,46])=false:=by simpa using JB
 have o7:=Qh (show comp s=!(decide (0≤Lib.idxFunc bX true ⟨s.toArray⟩)) by rw[Xuh,Bool.not_not];simp[comp,h1,pz,f46,f47]);have Qz:=Qh (Xgj 218 bX s w (fun _ _=>by kernel_rfl) (fun x W=>Xjt x W));generalize decide (0≤Lib.idxFunc bX true ⟨s.toArray⟩)=bb at o7 Qz;clear F4 JB;go_enter Tryz.func177,Tryz.ntmps177
 go_wp2_with fail
 refine Qz.O.mono ?_;rintro e w1 ⟨rfl,aD⟩;go_wp2;go_ret;exact⟨ib o7.O.symm,aD⟩
theorem UW(I:IH)(hI:eG I)(s:af)(hs:s.length≤4294967280)(w:World)(hw:Ok I w):
 Calls Tryz.prog 140 #[S s] w (Lt iE I w (els s)):=by
 by_cases h0:s=[]
 ·obtain⟨p1,p2,p3,p4⟩:=BU h0;have Hs:=Qh (show els s=[] by rw[h0];rfl);clear h0;go_enter Tryz.func140,Tryz.ntmps140
  go_wp2;go_ret;rw[Hs.O];exact⟨_,I,rfl,Qb _ _,Ext.refl _ _,hw,aZ.nil _ _⟩
 ·obtain⟨p1,p2,p3,p4⟩:=Ao h0;have Hs:=Qh (show els s=dR [] s by rw[els,if_neg h0]);have Hl:=Qh (Xrn I hI s hs w hw);generalize dR [] s=l at Hs Hl;clear h0;go_enter Tryz.func140,Tryz.ntmps140
  go_wp2_with fail
  refine Hl.O.mono ?_;rintro e w1 ⟨v1,I1,rfl,aD,gu,aM,gy⟩;obtain⟨ao,cap,rfl,dO,fJ,_⟩:=id gy;go_wp2;go_ret;rw[Hs.O];exact⟨_,I1,rfl,aD,gu,aM,gy⟩
theorem Xrh(s:af)(hs:s.length≤9223372036854775807)(w:World):
 Calls Tryz.prog 176 #[S s] w fun e w'=>e= .returned (.bool (!(comp s)))∧Below w.heap.size w w':=by
 go_enter Tryz.func176,Tryz.ntmps176
 go_wp2_with fail
 refine(Xk6 s hs _).mono ?_;rintro e w1 ⟨rfl,aD⟩;go_wp2;go_ret;exact⟨rfl,aD⟩
theorem Xil(I:IH)(v:Value)(l:List af)(hv:aZ iE I v l)(g:Nat)(p:af→Bool)(w:World)(hw:Ok I w)(eg:∀args w,(callFunc g args).run Tryz.prog w= .ok (.enter g args) w)(hp:∀x∈l,∀W:World,Calls Tryz.prog g #[S x] W fun e w'=>e= .returned (.bool (p x))∧Below W.heap.size W w'):
 Calls Tryz.prog 216 #[v,.func (.func g) #[] #[]] w fun e w'=>e= .returned (.int .i64 (ol l p))∧Below w.heap.size w w':=by
 have hlen:=hv.bF;obtain⟨ao,cap,rfl,dO,fJ,_⟩:=id hv;have Hv:=Qh hv;clear hv;have Hp:=Qh hp;clear hp;go_enter Tryz.func216,Tryz.ntmps216
 go_wp2_with fail
 go_loopw [8] (fun s8 wr=> ∃k:Nat,k≤l.length∧s8= .int .i64 k∧(l.take k).any p=false∧Below w.heap.size w wr) (fun i _=>l.length-(intOf i).toNat)
 case atStart=>exact⟨0,Nat.zero_le _,rfl,rfl,Qb _ _⟩
 case round=>
  obtain⟨k,hk,rfl,hr,hb⟩:=hrel;have Hr:=Qh hr;clear hr;by_cases hlt:k<l.length
  ·have dG:Ok I wr:=hw.below (Qn _) hb;obtain⟨x,b,off,cap',dA,cZ,vH⟩:=DY Hv.O dG k hlt;cases cZ;have qM:=Qh dA;have kX:=Qh (Hp.O x (by rw[←dA];exact List.getElem_mem hlt));clear dA;go_wp2_with fail
   refine(kX.O _).mono ?_;rintro e w1 ⟨rfl,aD⟩;have aH:=hb.trans (aD.mono hb.size);clear aD kX;cases hpx:p x
   ·have Hn:=Qh (show(l.take (k+1)).any p=false by rw[List.take_succ_eq_append_getElem hlt,List.any_append,Hr.O,qM.O];simp[hpx]);clear hpx;go_wp2;go_roundw;case rel=>exact⟨k+1,by omega,by go_num,Hn.O,aH⟩
    case measure=>simp[intOf];omega
   ·have Hn:=Qh (UU (p:=p) hlt (by rw[qM.O];exact hpx) Hr.O);clear hpx;go_wp2;go_ret;exact⟨di Hn.O.symm,aH⟩
  ·have Hn:=Qh (show ol l p= -1 from UT (by have:=Hr.O;rwa[List.take_of_length_le (by omega)]at this));go_wp2;go_ret;exact⟨di Hn.O.symm,hb⟩
theorem Xfw(I:IH)(v:Value)(l:List af)(hv:aZ iE I v l)(g:Nat)(p:af→Bool)(w:World)(hw:Ok I w)(eg:∀args w,(callFunc g args).run Tryz.prog w= .ok (.enter g args) w)(hp:∀x∈l,∀W:World,Calls Tryz.prog g #[S x] W fun e w'=>e= .returned (.bool (p x))∧Below W.heap.size W w'):
 Calls Tryz.prog 175 #[v,.func (.func g) #[] #[]] w fun e w'=>e= .returned (.bool (l.any p))∧Below w.heap.size w w':=by
 have Hi:=Qh (Xil I v l hv g p w hw eg hp);obtain⟨ao,cap,rfl,dO,fJ,_⟩:=id hv;clear hv hp eg;rcases LZ l p with⟨i,hi,e1,e2,_⟩|⟨e1,e2⟩
 ·have Ha:=Qh (show l.any p=true from List.any_eq_true.2 ⟨l[i],List.getElem_mem hi,e2⟩);have hd:decide ((0:Int)≤(i:Int))=true:=Qt (by omega);rw[e1]at Hi;clear e1 e2;go_enter Tryz.func175,Tryz.ntmps175
  go_wp2_with fail
  refine Hi.O.mono ?_;rintro e w1 ⟨rfl,aD⟩;go_wp2;go_ret;exact⟨ib Ha.O.symm,aD⟩
 ·have Ha:=Qh e2;rw[e1]at Hi;clear e1 e2;go_enter Tryz.func175,Tryz.ntmps175
  go_wp2_with fail
  refine Hi.O.mono ?_;rintro e w1 ⟨rfl,aD⟩;go_wp2;go_ret;exact⟨ib Ha.O.symm,aD⟩
theorem Xw0(l:List af):l.any (fun s=> !(comp s))=!(l.all comp):=by
 induction l with
 |nil=>rfl
 |cons x l ih=>rw[List.any_cons,List.all_cons,ih,Bool.not_and]
theorem Xn3(I:IH)(hI:eG I)(s:af)(hs:s.length≤4294967280)(w:World)(hw:Ok I w):
 Calls Tryz.prog 130 #[S s] w fun e w'=>e= .returned (.int .i64 (aO s))∧Below w.heap.size w w':=by
 have qp:=Qh (UW I hI s hs w hw);have Gq:=Qh (fun(q:af) (h:q∈els s)=>Xsk h);by_cases Xc:s.length≤200;case neg=>
  have hd:decide (200<s.length)=true:=Qt (by omega);have Hp:=Qh (show aO s=6 by rw[aO,if_pos (by omega)]);go_enter Tryz.func130,Tryz.ntmps130
  go_wp2_with fail
  refine qp.O.mono ?_;rintro e w1 ⟨v1,I1,rfl,aD,gu,aM,gy⟩;obtain⟨ao,cap,rfl,dO,fJ,_⟩:=id gy;clear gy;go_wp2;go_ret;exact⟨di Hp.O.symm,aD⟩
 have hd:decide (200<s.length)=false:=Qf (by omega);have Hp:=Qh (show aO s=if 8<(els s).length then 6 else if(els s).all comp then 0 else 7 by rw[aO,if_neg (by omega)]);generalize els s=l at qp Hp Gq;by_cases h8:8<l.length;case pos=>
  have HZ:=Qh (show aO s=6 by rw[Hp.O,if_pos h8]);go_enter Tryz.func130,Tryz.ntmps130
  go_wp2_with fail
  refine qp.O.mono ?_;rintro e w1 ⟨v1,I1,rfl,aD,gu,aM,gy⟩;obtain⟨ao,cap,rfl,dO,fJ,_⟩:=id gy;clear gy;go_wp2;go_ret;exact⟨di HZ.O.symm,aD⟩
 have HZ:=Qh (show aO s=if l.all comp then 0 else 7 by rw[Hp.O,if_neg h8]);go_enter Tryz.func130,Tryz.ntmps130
 go_wp2_with fail
 refine qp.O.mono ?_;rintro e w1 ⟨v1,I1,rfl,aD,gu,aM,gy⟩;have Qz:=Qh (Xfw I1 v1 l gy 176 (fun s=> !(comp s)) w1 aM (fun _ _=>by kernel_rfl) (fun x hx W=>Xrh x (by have:=Gq.O x hx;omega) W));rw[Xw0]at Qz;obtain⟨ao,cap,rfl,dO,fJ,_⟩:=id gy;clear gy;go_wp2_with fail
 refine Qz.O.mono ?_;rintro e w2 ⟨rfl,aL⟩;cases ha:l.all comp
 ·have Hn:=Qh (show aO s=7 by rw[HZ.O,ha];rfl);clear ha;go_wp2;go_ret;exact⟨di Hn.O.symm,aD.trans (aL.mono aD.size)⟩
 ·have Hn:=Qh (show aO s=0 by rw[HZ.O,ha];rfl);clear ha;go_wp2;go_ret;exact⟨di Hn.O.symm,aD.trans (aL.mono aD.size)⟩
theorem QA(I:IH)(hI:eG I)(s:af)(hs:s.length≤4294967280)(w:World)(hw:Ok I w):
 Calls Tryz.prog 136 #[S s] w (xz iE I w (lZ s).1 (lZ s).2):=by
 have Hc:=Qh (Xn3 I hI s hs w hw);by_cases h0:aO s=0
 ·rw[h0]at Hc;have xB:=Qh (JX h0);clear h0;go_enter Tryz.func136,Tryz.ntmps136
  go_wp2_with fail
  refine Hc.O.mono ?_;rintro e w1 ⟨rfl,aD⟩;have aM:Ok I w1:=hw.below (Qn _) aD;go_wp2_with fail
  refine(UW I hI s hs _ aM).mono ?_;rintro e w2 ⟨v2,I2,rfl,aL,oQ,aX,kD⟩;obtain⟨ao,cap,rfl,dO,fJ,_⟩:=id kD;go_wp2;go_ret2;rw[xB.O];exact⟨_,I2,rfl,aD.trans (aL.mono aD.size),oQ.mono aD.size,aX,kD⟩
 ·have xB:=Qh (Qo h0);obtain⟨q,hq⟩:∃q,aO s=q:=⟨_,rfl⟩;have hn:(q !=0)=true:=by rw[←hq];simpa using h0
  rw[hq]at xB Hc;clear hq h0;go_enter Tryz.func136,Tryz.ntmps136
  go_wp2_with fail
  refine Hc.O.mono ?_;rintro e w1 ⟨rfl,aD⟩;have aM:Ok I w1:=hw.below (Qn _) aD;go_wp2;go_ret2;rw[xB.O];exact⟨_,I,rfl,aD,Ext.refl _ _,aM,aZ.nil _ _⟩
theorem Xrg(I:IH)(hI:eG I)(s:af)(hs:s.length≤4294967280)(w:World)(hw:Ok I w):
 Calls Tryz.prog 83 #[S s] w fun e w'=>e= .returned (.tuple #[S (og s).1,.int .i64 (og s).2])∧Below w.heap.size w w':=by
 by_cases h0:aO s=0
 ·have oC:=Qh (by have:=QA I hI s hs w hw;rw[JX h0]at this;exact this);have rU:=(Ey h0).1;have O0:=(Ey h0).2.1;have H8:=Qh (show og s=if s=[]then([],1)else(nZ s,0) by rw[og,if_neg (by omega)]);have xk:(dY (els s)).length≤200:=by rw[P6];exact rU
  have xm:=Xsj (s:=s);have gz:nZ s=dY ((els s).take ((els s).length-1)):=by rw[nZ,List.dropLast_eq_take]
  have Qp:=Qh (W9 (els s) ((els s).length-1));generalize els s=l at oC xk xm gz Qp O0;have qp:=Qh xm;have Xe:=Qh gz;clear h0 xm gz;go_enter Tryz.func83,Tryz.ntmps83
  go_wp2_with fail
  refine oC.O.mono ?_;rintro e w1 ⟨v1,I1,rfl,aD,gu,aM,gy⟩;obtain⟨ao,cap,rfl,dO,fJ,_⟩:=id gy;have uz:=Qh gy;clear gy gu;have vM:maxLen=9223372036854775807:=rfl;by_cases tT:l.length=0
  ·have Hn:=Qh (show og s=([],1) by rw[H8.O,if_pos (qp.O.1 (List.eq_nil_of_length_eq_zero tT))]);have hz:((l.length:Int)==0)=true:=by rw[tT];rfl
   clear tT vM;go_wp2;go_ret2;rw[Hn.O];exact⟨rfl,aD⟩
  ·have Hn:=Qh (show og s=(dY (l.take (l.length-1)),0) by
    rw[H8.O,if_neg (fun e=>tT (by rw[qp.O.2 e];rfl)),Xe.O])
   have hz:((l.length:Int)==0)=false:=by rw[beq_eq_false_iff_ne];omega
   have hlp:1≤l.length:=by omega
   have hi:IntKind.i64.wrap ((l.length:Int)-1)=(l.length:Int)-1:=IntWalk.i64_in _ (by omega);have hj:(0:Int)≤(l.length:Int)-1:=by omega
   have JA:(l.length:Int)-1≤(cap:Int):=by omega
   have hm:((l.length:Int)-1).toNat=l.length-1:=by omega
   have H9:=Qh (uz.O.BO (n:=l.length-1) (by omega));have Xf:=Qh (Xuc I1 _ _ H9.O (by have:=Qp.O;omega) (by rw[List.length_take];omega) w1 aM);clear tT vM;go_wp2_with fail
   refine Xf.O.mono ?_;rintro e w2 ⟨rfl,aL⟩;go_wp2;go_ret2;rw[Hn.O];exact⟨rfl,aD.trans (aL.mono aD.size)⟩
 ·have oC:=Qh (by have:=QA I hI s hs w hw;rw[Qo h0]at this;exact this);obtain⟨q,hq⟩:∃q,aO s=q:=⟨_,rfl⟩;have hn:(q !=0)=true:=by rw[←hq];simpa using h0
  have H8:=Qh (show og s=([],q) by rw[og,if_pos h0,hq]);rw[hq]at oC;clear hq h0;go_enter Tryz.func83,Tryz.ntmps83
  go_wp2_with fail
  refine oC.O.mono ?_;rintro e w1 ⟨v1,I1,rfl,aD,gu,aM,gy⟩;obtain⟨ao,cap,rfl,dO,fJ,_⟩:=id gy;go_wp2;go_ret2;rw[H8.O];exact⟨rfl,aD⟩
theorem XK(I:IH)(hI:eG I)(p d:af)(hp:p.length≤4294967280)(hd:d.length≤4294967280)(w:World)(hw:Ok I w):
 Calls Tryz.prog 81 #[S p,S d] w fun e w'=>e= .returned (.bool (under p d))∧Below w.heap.size w w':=by
 have oC:=Qh (QA I hI p hp w hw);have Hu:=Qh (show under p d=(decide (aO p=0)&&decide (aO d=0)&&(els d).isPrefixOf (els p))from rfl);have rV:(lZ p).2=aO p:=by rw[lZ];split<;>simp_all
 have TD:(lZ d).2=aO d:=by rw[lZ];split<;>simp_all
 have Hl1:=Qh (fun h:aO p=0=>show(lZ p).1=els p by rw[JX h]);have Hl2:=Qh (fun h:aO d=0=>show(lZ d).1=els d by rw[JX h]);have XL:=Qh (fun I hI w hw=>QA I hI d hd w hw);rw[rV]at oC;rw[TD]at XL;generalize(lZ p).1=l at oC Hl1;generalize(lZ d).1=m at XL Hl2;clear rV TD;go_enter Tryz.func81,Tryz.ntmps81
 go_wp2_with fail
 refine oC.O.mono ?_;rintro e w1 ⟨v1,I1,rfl,aD,gu,aM,gy⟩;have jC:=hI.mono (gu.keep hw (Qn _));have uz:=Qh gy;clear gy;obtain⟨ao0,cap0,rfl,_,_,_⟩:=id uz.O;go_wp2_with fail
 refine(XL.O I1 jC _ aM).mono ?_;rintro e w2 ⟨v2,I2,rfl,aL,oQ,aX,kD⟩;have gy:=uz.O.mono (oQ.keep aM (Qn _));have aY:=aD.trans (aL.mono aD.size);obtain⟨ao,cap,e1,dO,fJ,_⟩:=id gy;cases e1;obtain⟨pF,cap2,rfl,oU,qJ,_⟩:=id kD;have hlen:=gy.bF;have BQ:=kD.bF;have Hl:=Qh gy;have Hm:=Qh kD;clear gy kD uz aD aL gu oQ;by_cases h0:aO p=0;case neg=>
  have Hn:=Qh (show under p d=false by rw[Hu.O,Qf h0];rfl);obtain⟨q,hq⟩:∃q,aO p=q:=⟨_,rfl⟩;have hn:(q==0)=false:=by rw[←hq];simpa using h0
  rw[hq];clear hq h0;go_wp2;go_ret;exact⟨ib Hn.O.symm,aY⟩
 by_cases h1:aO d=0;case neg=>
  have Hn:=Qh (show under p d=false by rw[Hu.O,Qf h1,Bool.and_false];rfl);obtain⟨q,hq⟩:∃q,aO d=q:=⟨_,rfl⟩;have hn:(q==0)=false:=by rw[←hq];simpa using h1
  rw[hq,h0];clear hq h1 h0;go_wp2;go_ret;exact⟨ib Hn.O.symm,aY⟩
 have Lu:=Qh (show under p d=m.isPrefixOf l by rw[Hu.O,Qt h0,Qt h1,Hl1.O h0,Hl2.O h1];rfl);rw[h0,h1];clear h0 h1;by_cases nA:m.length≤l.length;case neg=>
  have ng:decide (m.length≤l.length)=false:=Qf nA;have Hn:=Qh (show under p d=false by rw[Lu.O];exact Xf5 (by omega));go_wp2;go_ret;exact⟨ib Hn.O.symm,aY⟩
 have ng:decide (m.length≤l.length)=true:=Qt nA;have hcc:m.length≤cap0:=by omega
 have Hn:=Qh (show under p d=decide (l.take m.length=m) by rw[Lu.O];exact Xhe l m);have QB:=Qh (Xrp I2 _ _ _ _ (Hl.O.BO nA) Hm.O w2 aX);generalize decide (l.take m.length=m)=bb at Hn QB;go_wp2_with fail
 refine QB.O.mono ?_;rintro e w3 ⟨rfl,dX⟩;go_wp2;go_ret;exact⟨ib Hn.O.symm,aY.trans (dX.mono aY.size)⟩
def qZ(x y:af):Int:=if Op.bytesLess x y then -1 else if Op.bytesLess y x then 1 else 0
theorem O1(x:af)(w:World):Calls Tryz.prog 183 #[S x] w fun e w'=>e= .returned (.bool false)∧w'=w:=by
 have f:(x !=x)=false:=by simp
 have f2:(x==x)=true:=by simp
 go_enter Tryz.func183,Tryz.ntmps183
 go_wp2;go_ret;exact⟨by first|rfl|(simp),rfl⟩
theorem Xwf(x y:af)(w:World):Calls Tryz.prog 141 #[S x,S y] w fun e w'=>e= .returned (.int .i64 (qZ x y))∧w'=w:=by
 rcases Lm x y with ht|ht|ht
 ·have Hn:=Qh (show qZ x y= -1 by rw[qZ,ht];rfl);go_enter Tryz.func141,Tryz.ntmps141
  go_wp2_with fail
  refine(O1 x _).mono ?_;rintro e w1 ⟨rfl,rfl⟩;go_wp2_with fail
  refine(O1 y _).mono ?_;rintro e w2 ⟨rfl,rfl⟩;go_wp2;go_ret;exact⟨di Hn.O.symm,rfl⟩
 ·have f1:Op.bytesLess x y=false:=by rw[ht];exact zU _
  have f2:Op.bytesLess y x=false:=by rw[ht];exact zU _
  have f3:(x==y)=true:=by simp[ht]
  have f4:(!(x==y))=false:=by simp[ht]
  have Hn:=Qh (show qZ x y=0 by rw[qZ,f1,f2];rfl);clear ht;go_enter Tryz.func141,Tryz.ntmps141
  go_wp2_with fail
  refine(O1 x _).mono ?_;rintro e w1 ⟨rfl,rfl⟩;go_wp2_with fail
  refine(O1 y _).mono ?_;rintro e w2 ⟨rfl,rfl⟩;go_wp2;go_ret;exact⟨di Hn.O.symm,rfl⟩
 ·have f1:=OP ht;have f3:(x==y)=false:=by simpa using(OQ ht).symm
  have f4:(!(x==y))=true:=by rw[f3];rfl
  have Hn:=Qh (show qZ x y=1 by rw[qZ,f1,ht];rfl);go_enter Tryz.func141,Tryz.ntmps141
  go_wp2_with fail
  refine(O1 x _).mono ?_;rintro e w1 ⟨rfl,rfl⟩;go_wp2_with fail
  refine(O1 y _).mono ?_;rintro e w2 ⟨rfl,rfl⟩;go_wp2;go_ret;exact⟨di Hn.O.symm,rfl⟩
theorem Xp4(x y:af):(qZ x y= -1∧Op.bytesLess x y=true)∨(qZ x y=0∧x=y)∨(qZ x y=1∧Op.bytesLess y x=true):=by
 rcases Lm x y with ht|ht|ht
 ·exact .inl ⟨by rw[qZ,ht];rfl,ht⟩
 ·exact .inr (.inl ⟨by rw[qZ,ht,zU];rfl,ht⟩)
 ·exact .inr (.inr ⟨by rw[qZ,OP ht,ht];rfl,ht⟩)
theorem Xhl(I:IH)(v1 v2:Value)(l m:List af)(nC:aZ iE I v1 l)(qK:aZ iE I v2 m)(w:World)(hw:Ok I w):
 Calls Tryz.prog 139 #[v1,v2,.func (.func 141) #[] #[]] w fun e w'=>e= .returned (.int .i64 (cmpL l m))∧Below w.heap.size w w':=by
 have hlen:=nC.bF;have BQ:=qK.bF;obtain⟨ao,cap,rfl,dO,fJ,_⟩:=id nC;obtain⟨pF,cap2,rfl,oU,qJ,_⟩:=id qK;have Hl:=Qh nC;have Hm:=Qh qK;clear nC qK;have eg:∀args w,(callFunc 141 args).run Tryz.prog w= .ok (.enter 141 args) w:=fun _ _=>by kernel_rfl
 go_enter Tryz.func139,Tryz.ntmps139
 go_wp2_with fail
 go_loopw [13] (fun s13 wr=> ∃k:Nat,k≤l.length∧k≤m.length∧s13= .int .i64 k∧l.take k=m.take k∧Below w.heap.size w wr) (fun i _=>l.length-(intOf i).toNat)
 case atStart=>exact⟨0,Nat.zero_le _,Nat.zero_le _,rfl,rfl,Qb _ _⟩
 case round=>
  obtain⟨k,hk,yD,rfl,hr,hb⟩:=hrel;have Hr:=Qh hr;have BP:=Qh (Xl5 hr hk yD);clear hr;have dG:Ok I wr:=hw.below (Qn _) hb;by_cases hlt:k<l.length;case neg=>
   have Qr:=Qh (show l.drop k=[]from List.drop_of_length_le (by omega));by_cases jh:k<m.length
   ·have ng:decide (l.length<m.length)=true:=Qt (by omega);have Hn:=Qh (show cmpL l m= -1 by rw[BP.O,Qr.O,List.drop_eq_getElem_cons jh];rfl);go_wp2;go_ret;exact⟨di Hn.O.symm,hb⟩
   ·have ng:decide (l.length<m.length)=false:=Qf (by omega);have Hn:=Qh (show cmpL l m=0 by rw[BP.O,Qr.O,List.drop_of_length_le (by omega)];rfl);go_wp2;go_ret;exact⟨di Hn.O.symm,hb⟩
  obtain⟨x,b,off,cap',dA,cZ,oG⟩:=DY Hl.O dG k hlt;cases cZ;by_cases jh:k<m.length;case neg=>
   have ng:decide (m.length≤k)=true:=Qt (by omega);have Hn:=Qh (show cmpL l m=1 by rw[BP.O,List.drop_of_length_le (l:=m) (by omega),List.drop_eq_getElem_cons hlt];rfl);clear dA;go_wp2;go_ret;exact⟨di Hn.O.symm,hb⟩
  have ng:decide (m.length≤k)=false:=Qf (by omega);obtain⟨y,b',off',nQ,ky,cZ,CO⟩:=DY Hm.O dG k jh;cases cZ;have EC:=Qh (show cmpL l m=cmpL (x::l.drop (k+1)) (y::m.drop (k+1)) by rw[BP.O,List.drop_eq_getElem_cons hlt,List.drop_eq_getElem_cons jh,dA,ky]);have qM:=Qh dA;have Ia:=Qh ky;have Hc:=Qh (Xwf x y);have fE:=Xp4 x y;generalize qZ x y=c at Hc fE;clear dA ky;rcases fE with⟨hc,ht⟩|⟨hc,ht⟩|⟨hc,ht⟩
  ·subst hc;have Hn:=Qh (show cmpL l m= -1 by rw[EC.O];exact Xga ht _ _);clear ht;go_wp2_with fail
   refine(Hc.O _).mono ?_;rintro e w1 ⟨rfl,rfl⟩;go_wp2;go_ret;exact⟨di Hn.O.symm,hb⟩
  ·subst hc;have Hn:=Qh (show l.take (k+1)=m.take (k+1) by rw[List.take_succ_eq_append_getElem hlt,List.take_succ_eq_append_getElem jh,Hr.O,qM.O,Ia.O,ht]);clear ht;go_wp2_with fail
   refine(Hc.O _).mono ?_;rintro e w1 ⟨rfl,rfl⟩;go_wp2;go_roundw;case rel=>exact⟨k+1,by omega,by omega,by go_num,Hn.O,hb⟩
   case measure=>simp[intOf];omega
  ·subst hc;have Hn:=Qh (show cmpL l m=1 by rw[EC.O];exact Xgb ht _ _);clear ht;go_wp2_with fail
   refine(Hc.O _).mono ?_;rintro e w1 ⟨rfl,rfl⟩;go_wp2;go_ret;exact⟨di Hn.O.symm,hb⟩
theorem Xiv(I:IH)(hI:eG I)(p d:af)(hp:p.length≤4294967280)(hd:d.length≤4294967280)(w:World)(hw:Ok I w):
 Calls Tryz.prog 87 #[S p,S d] w fun e w'=>e= .returned (.int .i64 (iU p d))∧Below w.heap.size w w':=by
 have Hu:=Qh (Xsu p d);have JY:=Qh (UW I hI p hp w hw);have JZ:=Qh (fun I hI w hw=>UW I hI d hd w hw);generalize els p=l at Hu JY;generalize els d=m at Hu JZ;go_enter Tryz.func87,Tryz.ntmps87
 go_wp2_with fail
 refine JY.O.mono ?_;rintro e w1 ⟨v1,I1,rfl,aD,gu,aM,gy⟩;have jC:=hI.mono (gu.keep hw (Qn _));have uz:=Qh gy;clear gy;obtain⟨ao0,cap0,rfl,_,_,_⟩:=id uz.O;go_wp2_with fail
 refine(JZ.O I1 jC _ aM).mono ?_;rintro e w2 ⟨v2,I2,rfl,aL,oQ,aX,kD⟩;have gy:=uz.O.mono (oQ.keep aM (Qn _));have aY:=aD.trans (aL.mono aD.size);have Hc:=Qh (Xhl I2 _ _ l m gy kD w2 aX);obtain⟨pF,cap2,rfl,_,_,_⟩:=id kD;clear gy kD uz gu oQ;go_wp2_with fail
 refine Hc.O.mono ?_;rintro e w3 ⟨rfl,dX⟩;go_wp2;go_ret;exact⟨di Hu.O.symm,aY.trans (dX.mono aY.size)⟩
def lh(acc:Nat)(l:af):Nat:=l.foldl (fun n c=>10*n+(c.toNat-48)) acc
theorem Xlz(acc:Nat)(l:af)(c:UInt8):lh acc (l++[c])=10*lh acc l+(c.toNat-48):=by simp[lh,List.foldl_append]
theorem L6(h:j6 c=true):48≤c.toNat∧c.toNat≤57:=by
 rw[UB,Bool.and_eq_true,decide_eq_true_iff,decide_eq_true_iff]at h;exact h
theorem Xh4:∀(l:af),l.all j6=true→ ∀(a:Nat),l.foldl (fun(n:Int) c=>10*n+((c.toNat:Int)-48)) (a:Int)=(lh a l:Nat)
 | [],_,_=>rfl
 |c::l,h,a=>by
  rw[List.all_cons,Bool.and_eq_true]at h;have hc:=L6 h.1;have:=Xh4 l h.2 (10*a+(c.toNat-48));rw[List.foldl_cons,show(10*(a:Int)+((c.toNat:Int)-48))=((10*a+(c.toNat-48):Nat):Int) by omega,this];rfl
theorem XM{l:af}(h:l.all j6=true):digits l=(lh 0 l:Nat):=Xh4 l h 0
theorem Xn5:∀(l:af) (acc:Nat),l.all j6=true→(acc+1)*10^l.length≤100000000000→Lib.parseUint10 acc l= .ok (lh acc l)
 | [],_,_,_=>rfl
 |c::l,acc,h,hb=>by
  rw[List.all_cons,Bool.and_eq_true]at h;have hc:=L6 h.1;rw[List.length_cons,Nat.pow_succ]at hb;have TE:1≤10^l.length:=Nat.pos_of_ne_zero (by simp);have arI:(acc+1)*10≤100000000000:=by
   have:(acc+1)*10*1≤(acc+1)*10*10^l.length:=Nat.mul_le_mul_left _ TE;rw[Nat.mul_comm (10^l.length) 10,←Nat.mul_assoc]at hb;omega
  have hn:(acc*10+(c.toNat-48)+1)*10^l.length≤100000000000:=by
   refine Nat.le_trans (Nat.mul_le_mul_right _ (show acc*10+(c.toNat-48)+1≤(acc+1)*10 by omega)) ?_;rw[Nat.mul_assoc,Nat.mul_comm 10 (10^l.length)];exact hb
  rw[Lib.parseUint10,if_pos hc,if_neg (by omega),if_neg (by omega),Xn5 l _ h.2 hn];show Lib.NumEnd.ok (lh _ l)=Lib.NumEnd.ok (lh (10*acc+(c.toNat-48)) l);rw[Nat.mul_comm acc 10]
theorem Xom{l:af}(h:(c::l).all j6=true)(hc:c≠48):10^l.length≤lh 0 (c::l):=by
 have key:∀(n:Nat) (l:af),l.length=n→ ∀a,a*10^n≤lh a l:=by
  intro n;induction n with
  |zero=>intro l h a;rw[List.eq_nil_of_length_eq_zero h];simp[lh]
  |succ n ih=>
   intro l h a;cases l with
   |nil=>simp at h
   |cons c l=>
    have:=ih l (by simpa using h) (10*a+(c.toNat-48));refine Nat.le_trans ?_ this;rw[Nat.pow_succ,Nat.mul_comm (10^n) 10,←Nat.mul_assoc];exact Nat.mul_le_mul_right _ (by omega)
 rw[List.all_cons,Bool.and_eq_true]at h;have hb:=L6 h.1;have bn:c.toNat≠48:=fun e=>hc (by
  have:c=UInt8.ofNat c.toNat:=by simp
  rw[this,e];rfl)
 have:=key l.length l rfl (10*0+(c.toNat-48));refine Nat.le_trans ?_ this;have h1:1≤10*0+(c.toNat-48):=by omega
 simpa using Nat.mul_le_mul_right (10^l.length) h1
def NoZ(s:af):Prop:=s.length=1∨s.head?≠some 48
theorem Xuq:∀(n:Nat) (s:af),s.length=n→s≠[]→s.all j6=true→NoZ s→Lib.decDigits (lh 0 s)=s:=by
 intro n;induction n with
 |zero=>intro s h h0;exact absurd (List.eq_nil_of_length_eq_zero h) h0
 |succ n ih=>
  intro s h h0 ha hz;have e:s=s.dropLast++[s.getLast h0]:=(List.dropLast_concat_getLast h0).symm;have hl:s.dropLast.length=n:=by rw[List.length_dropLast,h];omega
  have Bu:=ha;rw[e,List.all_append,Bool.and_eq_true]at Bu;have hc:j6 (s.getLast h0)=true:=by simpa using Bu.2
  have hb:=L6 hc;have hoc:UInt8.ofNat (48+((s.getLast h0).toNat-48))=s.getLast h0:=by
   rw[show 48+((s.getLast h0).toNat-48)=(s.getLast h0).toNat by omega];simp
  by_cases hn:n=0
  ·have ht:s.dropLast=[]:=List.eq_nil_of_length_eq_zero (by omega);rw[e,ht,List.nil_append];have:lh 0 [s.getLast h0]=(s.getLast h0).toNat-48:=by simp[lh]
   rw[this,Lib.decDigits,dif_pos (by omega),hoc]
  ·have TF:s.dropLast≠[]:=by intro e2;rw[e2]at hl;simp at hl;omega
   have hh:s.head?≠some 48:=by
    rcases hz with hz|hz
    ·omega
    ·exact hz
   have TG:s.dropLast.head?=s.head? :=by
    cases hd:s.dropLast with
    |nil=>exact absurd hd TF
    |cons a t=>rw[e,hd];rfl
   have i1:=ih s.dropLast hl TF Bu.1 (.inr (by rw[TG];exact hh));have JD:1≤lh 0 s.dropLast:=by
    cases hd:s.dropLast with
    |nil=>exact absurd hd TF
    |cons a t=>
     have L8:(a::t).all j6=true:=by rw[←hd];exact Bu.1
     have:10^t.length≤lh 0 (a::t):=Xom L8 (fun e3=>hh (by rw[←TG,hd,e3];rfl));have TE:1≤10^t.length:=Nat.pos_of_ne_zero (by simp);omega
   have hs:lh 0 s=10*lh 0 s.dropLast+((s.getLast h0).toNat-48):=by
    conv=>lhs;rw[e]
    exact Xlz _ _ _
   rw[hs,Lib.decDigits,dif_neg (by omega),show(10*lh 0 s.dropLast+((s.getLast h0).toNat-48)) / 10=lh 0 s.dropLast by omega,show(10*lh 0 s.dropLast+((s.getLast h0).toNat-48))%10=(s.getLast h0).toNat-48 by omega,i1,hoc];exact e.symm
theorem Xso(h:n<10):j6 (UInt8.ofNat (48+n))=true:=by
 rw[UB];simp;omega
theorem Xl0:∀(u:Nat),(Lib.decDigits u).all j6=true∧Lib.decDigits u≠[]∧lh 0 (Lib.decDigits u)=u∧(10≤u→(Lib.decDigits u).head?≠some 48)∧(1≤u→(Lib.decDigits u).head?≠some 48):=by
 intro u;induction u using Nat.strongRecOn with
 |_ u ih=>
  by_cases h:u<10
  ·have e:Lib.decDigits u=[UInt8.ofNat (48+u)]:=by rw[Lib.decDigits,dif_pos h]
   have hd:=Xso h;have ht:(UInt8.ofNat (48+u)).toNat=48+u:=by simp;omega
   rw[e];refine⟨by rw[List.all_cons,hd];rfl,by simp,by simp only[lh,List.foldl_cons,List.foldl_nil,ht];omega,fun h2=>by omega,fun h2 he=> ?_⟩;simp only[List.head?_cons,Option.some.injEq]at he;have:=congrArg UInt8.toNat he;rw[ht]at this;have h48:(48:UInt8).toNat=48:=rfl;omega
  ·have e:Lib.decDigits u=Lib.decDigits (u / 10)++[UInt8.ofNat (48+u%10)]:=by rw[Lib.decDigits,dif_neg h]
   obtain⟨i1,i2,i3,i4,i5⟩:=ih (u / 10) (by omega);have hd:=Xso (n:=u%10) (by omega);have ht:(UInt8.ofNat (48+u%10)).toNat=48+u%10:=by simp;omega
   have TG:(Lib.decDigits u).head?≠some 48:=by
    rw[e];cases hc:Lib.decDigits (u / 10)with
    |nil=>exact absurd hc i2
    |cons a t=>
     have:=i5 (by omega);rw[hc]at this;exact this
   refine⟨?_,?_,?_,fun _=>TG,fun _=>TG⟩
   ·rw[e,List.all_append,i1,List.all_cons,hd];rfl
   ·rw[e];simp
   ·rw[e,Xlz,i3,ht];omega
theorem Xon(s:af):fK s=true↔ ∃n:Int,Lib.atoiAll s= .ok n∧0≤n∧n≤1000000000∧Lib.itoa n=s:=by
 have hd:(fun c:UInt8=>decide (48≤c)&&decide (c≤57))=j6:=rfl;constructor
 ·intro h;unfold fK at h;rw[hd]at h;simp only[Bool.and_eq_true,decide_eq_true_eq]at h;obtain⟨⟨⟨⟨h1,h2⟩,h3⟩,h4⟩,h5⟩:=h;have h0:s≠[]:=by intro e;rw[e]at h1;simp at h1
  have hz:NoZ s:=by
   by_cases hl:s.length=1
   ·exact .inl hl
   ·right;intro e;rw[e,Qt (show 1<s.length by omega)]at h3;simp at h3
  rw[XM h4]at h5;refine⟨(lh 0 s:Nat),?_,by omega,h5,?_⟩
  ·cases hs:s with
   |nil=>exact absurd hs h0
   |cons c r=>
    have ha:(c::r).all j6=true:=by rw[←hs];exact h4
    have hc:j6 c=true:=by rw[List.all_cons,Bool.and_eq_true]at ha;exact ha.1
    have hb:=L6 hc;have hlen:(c::r).length≤10:=by rw[←hs];exact h2
    have hp:=Xn5 (c::r) 0 ha (by
     have:10^(c::r).length≤10^10:=Nat.pow_le_pow_right (by decide) hlen;omega)
    rw[Lib.atoiAll];rw[if_neg (by omega),Lib.parseMag,if_neg (by simp),hp];rw[hs]at h5;simp only;rw[if_neg (by omega),if_neg (by omega),if_neg (by omega)]
  ·rw[Lib.itoa,if_neg (by omega),Int.toNat_natCast];exact Xuq _ s rfl h0 h4 hz
 ·rintro⟨n,_,h0,h1,h2⟩;obtain⟨u,rfl⟩:=Int.eq_ofNat_of_zero_le h0;rw[Lib.itoa,if_neg (by omega),Int.toNat_natCast]at h2;obtain⟨f1,f2,f3,f4,f5⟩:=Xl0 u;rw[h2]at f1 f2 f3 f4 f5;have JE:digits s=u:=by rw[XM f1,f3]
  unfold fK;rw[hd,f1,JE,Qt h1];have Eo:1≤s.length:=List.length_pos_iff.2 f2;have hz:(decide (1<s.length)&&s.head?==some 48)=false:=by
   cases hb:(decide (1<s.length)&&s.head?==some 48)with
   |false=>rfl
   |true=>
    rw[Bool.and_eq_true,decide_eq_true_iff,beq_iff_eq]at hb;by_cases hu:1≤u
    ·exact absurd hb.2 (f5 hu)
    ·have:u=0:=by omega
     subst this;have:s=[48]:=by rw[←h2,Lib.decDigits,dif_pos (by decide)];rfl
     rw[this]at hb;simp at hb
  have XN:s.length≤10:=by
   cases hs:s with
   |nil=>simp
   |cons c r=>
    by_cases hu:1≤u
    ·have hc:c≠48:=fun e=>f5 hu (by rw[hs,e];rfl);have:=Xom (c:=c) (l:=r) (by rw[←hs];exact f1) hc;rw[←hs,f3]at this;have hlt:¬10≤r.length:=by
      intro TE;have:10^10≤10^r.length:=Nat.pow_le_pow_right (by decide) TE;omega
     simp only[List.length_cons];omega
    ·have:u=0:=by omega
     subst this;have:s=[48]:=by rw[←h2,Lib.decDigits,dif_pos (by decide)];rfl
     rw[hs]at this;rw[this];simp
  rw[hz,Qt Eo,Qt XN];rfl
theorem XO{W w1:World}{x:At}{T:TypeId}(hn:n=W.heap.size)(hb:Below (W.alloc (.cells #[S x.k,S x.v] T)).heap.size (W.alloc (.cells #[S x.k,S x.v] T)) w1):
 w1.cell? ⟨n,0,none⟩=some (S x.k)∧w1.cell? ⟨n,1,none⟩=some (S x.v):=by
 subst hn;refine⟨?_,?_⟩<;>(rw[hb.cell (by simp)];simp)
end Go.Proofs.YtmdfjnhfhidmhaaGreatDoor
namespace Go.Proofs
open Go.Shelf
def Tryz.yQ:Go.Shelf.Ren:=⟨fun|160=>144|232=>186|231=>185|227=>187|234=>189|233=>188|236=>191|235=>190|228=>225|271=>228|151=>227|197=>226|120=>258|152=>257|260=>256|137=>267|119=>268|224=>269|225=>270|217=>277|266=>284|n=>n,fun|9=>9|4=>4|3=>3|5=>5|117=>221|116=>220|0=>0|124=>224|21=>21|105=>256|46=>186|119=>290|139=>293|138=>292|n=>n,fun|3=>3|4=>4|n=>n⟩
theorem Tryz.Io:Go.Proofs.Lays.n160 Tryz.prog Tryz.yQ:={
 mixed:=by kernel_rfl
 f119:=Tryz.func268.trans (congrArg some (by kernel_rfl))
 f120:=Tryz.func258.trans (congrArg some (by kernel_rfl))
 f137:=Tryz.func267.trans (congrArg some (by kernel_rfl))
 f151:=Tryz.func227.trans (congrArg some (by kernel_rfl))
 f152:=Tryz.func257.trans (congrArg some (by kernel_rfl))
 f160:=Tryz.func144.trans (congrArg some (by kernel_rfl))
 f197:=Tryz.func226.trans (congrArg some (by kernel_rfl))
 f217:=Tryz.func277.trans (congrArg some (by kernel_rfl))
 f224:=Tryz.func269.trans (congrArg some (by kernel_rfl))
 f225:=Tryz.func270.trans (congrArg some (by kernel_rfl))
 f227:=Tryz.func187.trans (congrArg some (by kernel_rfl))
 f228:=Tryz.func225.trans (congrArg some (by kernel_rfl))
 f231:=Tryz.func185.trans (congrArg some (by kernel_rfl))
 f232:=Tryz.func186.trans (congrArg some (by kernel_rfl))
 f233:=Tryz.func188.trans (congrArg some (by kernel_rfl))
 f234:=Tryz.func189.trans (congrArg some (by kernel_rfl))
 f235:=Tryz.func190.trans (congrArg some (by kernel_rfl))
 f236:=Tryz.func191.trans (congrArg some (by kernel_rfl))
 f260:=Tryz.func256.trans (congrArg some (by kernel_rfl))
 f266:=Tryz.func284.trans (congrArg some (by kernel_rfl))
 f271:=Tryz.func228.trans (congrArg some (by kernel_rfl))
 t0:=Tryz.underlying0
 a0:=Tryz.isAgg0
 z0:=Tryz.sizeOf0
 v0:=Tryz.zeroValue0
 t3:=Tryz.underlying3
 a3:=Tryz.isAgg3
 z3:=Tryz.sizeOf3
 v3:=Tryz.zeroValue3
 t4:=Tryz.underlying4
 a4:=Tryz.isAgg4
 z4:=Tryz.sizeOf4
 v4:=Tryz.zeroValue4
 t5:=Tryz.underlying5
 a5:=Tryz.isAgg5
 z5:=Tryz.sizeOf5
 v5:=Tryz.zeroValue5
 t9:=Tryz.underlying9
 a9:=Tryz.isAgg9
 z9:=Tryz.sizeOf9
 v9:=Tryz.zeroValue9
 t21:=Tryz.underlying21
 a21:=Tryz.isAgg21
 z21:=Tryz.sizeOf21
 v21:=Tryz.zeroValue21
 t46:=Tryz.underlying186
 a46:=Tryz.isAgg186
 z46:=Tryz.sizeOf186
 v46:=Tryz.zeroValue186
 t105:=Tryz.underlying256
 a105:=Tryz.isAgg256
 z105:=Tryz.sizeOf256
 v105:=Tryz.zeroValue256
 t116:=Tryz.underlying220
 a116:=Tryz.isAgg220
 z116:=Tryz.sizeOf220
 t117:=Tryz.underlying221
 a117:=Tryz.isAgg221
 z117:=Tryz.sizeOf221
 v117:=Tryz.zeroValue221
 t119:=Tryz.underlying290
 a119:=Tryz.isAgg290
 z119:=Tryz.sizeOf290
 t124:=Tryz.underlying224
 a124:=Tryz.isAgg224
 z124:=Tryz.sizeOf224
 v124:=Tryz.zeroValue224
 t138:=Tryz.underlying292
 a138:=Tryz.isAgg292
 z138:=Tryz.sizeOf292
 v138:=Tryz.zeroValue292
 t139:=Tryz.underlying293
 a139:=Tryz.isAgg293
 z139:=Tryz.sizeOf293
 v139:=Tryz.zeroValue293
 g3:=by kernel_rfl
 g4:=by kernel_rfl}
open Go.RowKit in
theorem Tryz.q8(s cutset:ByteArray)(w:World)(hs:s.size≤9223372036854775807)(fE:cutset.size<4294967281)(Od:∀(j:Nat) b,cutset.data.toList[j]?=some b→b.toNat<128):
 Calls Tryz.prog 144 #[.string s,.string cutset] w fun e w'=>e= .returned (.string ⟨(Lib.trimS s.data.toList cutset.data.toList).toArray⟩)∧RowKit.Below w.heap.size w w':=Any.strings_Trim_laid Tryz.Io (by kernel_rfl) s cutset w hs fE Od
end Go.Proofs
