/- Lemmas for the claim's theorem;conditions: as each says. -/
import Derived.Test.YtmdfjnhfhidmhaaGreatDoorQ04
set_option maxHeartbeats 0
set_option maxRecDepth 100000
set_option linter.all false
namespace Go.Proofs.YtmdfjnhfhidmhaaGreatDoor
open Go.RowKit
section
variable {α:Type}
def lC(l:List α)(p:α→Bool):Int:=match l.findIdx? p with|some i=>i|none=> -1
theorem PS{l:List α}{p:α→Bool}(h:l.any p=false):lC l p= -1:=by
 have:l.findIdx? p=none:=by
  rw[List.findIdx?_eq_none_iff];intro x hx;cases hp:p x with
  |false=>rfl
  |true=>rw[List.any_eq_true.2 ⟨x,hx,hp⟩]at h;exact absurd h (by simp)
 rw[lC,this]
theorem PT{l:List α}{p:α→Bool}{i:Nat}(hi:i<l.length)(hp:p l[i]=true)(hn:(l.take i).any p=false):lC l p=i:=by
 have:l.findIdx? p=some i:=by
  rw[List.findIdx?_eq_some_iff_getElem];refine⟨hi,hp,fun j hj=> ?_⟩;cases hq:p l[j]with
  |false=>simp
  |true=>
   have yh:j<(l.take i).length:=by simp;omega
   rw[List.any_eq_true.2 ⟨(l.take i)[j],List.getElem_mem yh,by rw[List.getElem_take];exact hq⟩]at hn;exact absurd hn (by simp)
 rw[lC,this]
theorem GQ(l:List α)(p:α→Bool):(∃i:Nat,∃h:i<l.length,lC l p=i∧p l[i]=true∧(l.take i).any p=false)∨(lC l p= -1∧l.any p=false):=by
 unfold lC;cases h:l.findIdx? p with
 |none=>
  right;refine⟨rfl,?_⟩;rw[List.findIdx?_eq_none_iff]at h;cases ha:l.any p with
  |false=>rfl
  |true=>
   obtain⟨x,hx,hp⟩:=List.any_eq_true.1 ha;rw[h x hx]at hp;exact absurd hp (by simp)
 |some i=>
  left;rw[List.findIdx?_eq_some_iff_getElem]at h;obtain⟨hi,h1,h2⟩:=h;refine⟨i,hi,rfl,h1,?_⟩;cases ha:(l.take i).any p with
  |false=>rfl
  |true=>
   obtain⟨x,hx,hp⟩:=List.any_eq_true.1 ha;obtain⟨j,hj,rfl⟩:=List.getElem_of_mem hx;rw[List.getElem_take]at hp;have yM:j<i:=by simp at hj;omega
   have:=h2 j yM;simp[hp]at this
end
variable{t:List aQ}{e:aQ}{p:af}{i:Nat}{d n:Int}
def bZ(r:Nat):Bool:=!(bD r)
theorem Xl9(c:Nat)(w:World):Calls Tryz.prog 219 #[.int .i32 (c:Int)] w fun e w'=>e= .returned (.bool (bZ c))∧w'=w:=by
 rcases(show(97≤c∧c≤122)∨122<c∨(48≤c∧c≤57)∨c=46∨c=95∨c=45∨(c<48∧c≠46∧c≠45)∨(57<c∧c<97∧c≠95) by omega)with hc|hc|hc|hc|hc|hc|hc|hc
 ·have d97:decide (97≤(c:Int))=true:=by simp;omega
  have d122:decide ((c:Int)≤122)=true:=by simp;omega
  have d48:decide (48≤(c:Int))=true:=by simp;omega
  have d57:decide ((c:Int)≤57)=false:=by simp;omega
  have n46:((c:Int)==46)=false:=by simp;omega
  have n95:((c:Int)==95)=false:=by simp;omega
  have n45:((c:Int)==45)=false:=by simp;omega
  have Hv:=Qh (show bZ c=true by unfold bZ bD;simp;omega);clear hc;go_enter Tryz.func219,Tryz.ntmps219
  go_wp2;go_ret;exact⟨iG Hv.q.symm,rfl⟩
 ·have d97:decide (97≤(c:Int))=true:=by simp;omega
  have d122:decide ((c:Int)≤122)=false:=by simp;omega
  have d48:decide (48≤(c:Int))=true:=by simp;omega
  have d57:decide ((c:Int)≤57)=false:=by simp;omega
  have n46:((c:Int)==46)=false:=by simp;omega
  have n95:((c:Int)==95)=false:=by simp;omega
  have n45:((c:Int)==45)=false:=by simp;omega
  have Hv:=Qh (show bZ c=false by unfold bZ bD;simp;omega);clear hc;go_enter Tryz.func219,Tryz.ntmps219
  go_wp2;go_ret;exact⟨iG Hv.q.symm,rfl⟩
 ·have d97:decide (97≤(c:Int))=false:=by simp;omega
  have d122:decide ((c:Int)≤122)=true:=by simp;omega
  have d48:decide (48≤(c:Int))=true:=by simp;omega
  have d57:decide ((c:Int)≤57)=true:=by simp;omega
  have n46:((c:Int)==46)=false:=by simp;omega
  have n95:((c:Int)==95)=false:=by simp;omega
  have n45:((c:Int)==45)=false:=by simp;omega
  have Hv:=Qh (show bZ c=true by unfold bZ bD;simp;omega);clear hc;go_enter Tryz.func219,Tryz.ntmps219
  go_wp2;go_ret;exact⟨iG Hv.q.symm,rfl⟩
 ·have d97:decide (97≤(c:Int))=false:=by simp;omega
  have d122:decide ((c:Int)≤122)=true:=by simp;omega
  have d48:decide (48≤(c:Int))=false:=by simp;omega
  have d57:decide ((c:Int)≤57)=true:=by simp;omega
  have n46:((c:Int)==46)=true:=by simp;omega
  have n95:((c:Int)==95)=false:=by simp;omega
  have n45:((c:Int)==45)=false:=by simp;omega
  have Hv:=Qh (show bZ c=true by unfold bZ bD;simp;omega);clear hc;go_enter Tryz.func219,Tryz.ntmps219
  go_wp2;go_ret;exact⟨iG Hv.q.symm,rfl⟩
 ·have d97:decide (97≤(c:Int))=false:=by simp;omega
  have d122:decide ((c:Int)≤122)=true:=by simp;omega
  have d48:decide (48≤(c:Int))=true:=by simp;omega
  have d57:decide ((c:Int)≤57)=false:=by simp;omega
  have n46:((c:Int)==46)=false:=by simp;omega
  have n95:((c:Int)==95)=true:=by simp;omega
  have n45:((c:Int)==45)=false:=by simp;omega
  have Hv:=Qh (show bZ c=true by unfold bZ bD;simp;omega);clear hc;go_enter Tryz.func219,Tryz.ntmps219
  go_wp2;go_ret;exact⟨iG Hv.q.symm,rfl⟩
 ·have d97:decide (97≤(c:Int))=false:=by simp;omega
  have d122:decide ((c:Int)≤122)=true:=by simp;omega
  have d48:decide (48≤(c:Int))=false:=by simp;omega
  have d57:decide ((c:Int)≤57)=true:=by simp;omega
  have n46:((c:Int)==46)=false:=by simp;omega
  have n95:((c:Int)==95)=false:=by simp;omega
  have n45:((c:Int)==45)=true:=by simp;omega
  have Hv:=Qh (show bZ c=true by unfold bZ bD;simp;omega);clear hc;go_enter Tryz.func219,Tryz.ntmps219
  go_wp2;go_ret;exact⟨iG Hv.q.symm,rfl⟩
 ·have d97:decide (97≤(c:Int))=false:=by simp;omega
  have d122:decide ((c:Int)≤122)=true:=by simp;omega
  have d48:decide (48≤(c:Int))=false:=by simp;omega
  have d57:decide ((c:Int)≤57)=true:=by simp;omega
  have n46:((c:Int)==46)=false:=by simp;omega
  have n95:((c:Int)==95)=false:=by simp;omega
  have n45:((c:Int)==45)=false:=by simp;omega
  have Hv:=Qh (show bZ c=false by unfold bZ bD;simp;omega);clear hc;go_enter Tryz.func219,Tryz.ntmps219
  go_wp2;go_ret;exact⟨iG Hv.q.symm,rfl⟩
 ·have d97:decide (97≤(c:Int))=false:=by simp;omega
  have d122:decide ((c:Int)≤122)=true:=by simp;omega
  have d48:decide (48≤(c:Int))=true:=by simp;omega
  have d57:decide ((c:Int)≤57)=false:=by simp;omega
  have n46:((c:Int)==46)=false:=by simp;omega
  have n95:((c:Int)==95)=false:=by simp;omega
  have n45:((c:Int)==45)=false:=by simp;omega
  have Hv:=Qh (show bZ c=false by unfold bZ bD;simp;omega);clear hc;go_enter Tryz.func219,Tryz.ntmps219
  go_wp2;go_ret;exact⟨iG Hv.q.symm,rfl⟩
theorem Xhg(c:Nat)(w:World):Calls Tryz.prog 218 #[.int .i32 (c:Int)] w fun e w'=>e= .returned (.bool (bD c))∧w'=w:=by
 go_enter Tryz.func218,Tryz.ntmps218
 go_wp2_with fail
 refine(Xl9 c _).mono ?_;rintro e w1 ⟨rfl,rfl⟩;go_wp2;go_ret;exact⟨iG (by rw[bZ,Bool.not_not]),rfl⟩
theorem Xih(s:af)(hs:s.length≤9223372036854775807)(w:World):
 Calls Tryz.prog 177 #[S s] w fun e w'=>e= .returned (.bool (comp s))∧Below w.heap.size w w':=by
 by_cases h1:1≤s.length;case neg=>
  have xq:decide (1≤s.length)=false:=Qf h1;have wI:=Qh (show comp s=false by simp[comp,h1]);go_enter Tryz.func177,Tryz.ntmps177
  go_wp2;go_ret;exact⟨iG wI.q.symm,Qb _ _⟩
 have xq:decide (1≤s.length)=true:=Qt h1;by_cases rf:s.length≤32;case neg=>
  have UG:decide (s.length≤32)=false:=Qf rf;have wI:=Qh (show comp s=false by simp[comp,rf]);go_enter Tryz.func177,Tryz.ntmps177
  go_wp2;go_ret;exact⟨iG wI.q.symm,Qb _ _⟩
 have UG:decide (s.length≤32)=true:=Qt rf;by_cases Mh:s=[46];case pos=>
  subst Mh;have wI:=Qh (show comp [46]=false by rfl);clear hs h1 xq rf UG;go_enter Tryz.func177,Tryz.ntmps177
  go_wp2;go_ret;exact⟨iG wI.q.symm,Qb _ _⟩
 have f46:(s !=[46])=true:=by simpa using Mh
 have g46:(s==[46])=false:=by simpa using Mh
 by_cases O5:s=[46,46];case pos=>
  subst O5;have wI:=Qh (show comp [46,46]=false by rfl);clear hs h1 xq rf UG Mh f46 g46;go_enter Tryz.func177,Tryz.ntmps177
  go_wp2;go_ret;exact⟨iG wI.q.symm,Qb _ _⟩
 have f47:(s !=[46,46])=true:=by simpa using O5
 have g47:(s==[46,46])=false:=by simpa using O5
 have wI:=Qh (show comp s=!(decide (0≤Lib.idxFunc bD true ⟨s.toArray⟩)) by rw[Xqb,Bool.not_not];simp[comp,h1,rf,f46,f47]);have Jt:=Qh (Xeq 218 bD s w (fun _ _=>by kernel_rfl) (fun x W=>Xhg x W));generalize decide (0≤Lib.idxFunc bD true ⟨s.toArray⟩)=bb at wI Jt;clear Mh O5;go_enter Tryz.func177,Tryz.ntmps177
 go_wp2_with fail
 refine Jt.q.mono ?_;rintro e w1 ⟨rfl,aG⟩;go_wp2;go_ret;exact⟨iG wI.q.symm,aG⟩
theorem Nh(I:IH)(hI:cB I)(s:af)(hs:s.length≤4294967280)(w:World)(hw:Ok I w):
 Calls Tryz.prog 140 #[S s] w (Ji ib I w (els s)):=by
 by_cases h0:s=[]
 ·obtain⟨p1,p2,p3,p4⟩:=Bp h0;have Hs:=Qh (show els s=[] by rw[h0];rfl);clear h0;go_enter Tryz.func140,Tryz.ntmps140
  go_wp2;go_ret;rw[Hs.q];exact⟨_,I,rfl,Qb _ _,Ext.refl _ _,hw,aY.nil _ _⟩
 ·obtain⟨p1,p2,p3,p4⟩:=Bo h0;have Hs:=Qh (show els s=dO [] s by rw[els,if_neg h0]);have Hl:=Qh (Xny I hI s hs w hw);generalize dO [] s=l at Hs Hl;clear h0;go_enter Tryz.func140,Tryz.ntmps140
  go_wp2_with fail
  refine Hl.q.mono ?_;rintro e w1 ⟨v1,I1,rfl,aG,kM,aS,fE⟩;obtain⟨ao,cap,rfl,dM,gV,_⟩:=id fE;go_wp2;go_ret;rw[Hs.q];exact⟨_,I1,rfl,aG,kM,aS,fE⟩
theorem Xnt(s:af)(hs:s.length≤9223372036854775807)(w:World):
 Calls Tryz.prog 176 #[S s] w fun e w'=>e= .returned (.bool (!(comp s)))∧Below w.heap.size w w':=by
 go_enter Tryz.func176,Tryz.ntmps176
 go_wp2_with fail
 refine(Xih s hs _).mono ?_;rintro e w1 ⟨rfl,aG⟩;go_wp2;go_ret;exact⟨rfl,aG⟩
theorem Xge(I:IH)(v:Value)(l:List af)(hv:aY ib I v l)(g:Nat)(p:af→Bool)(w:World)(hw:Ok I w)(eg:∀args w,(callFunc g args).run Tryz.prog w= .ok (.enter g args) w)(hp:∀x∈l,∀W:World,Calls Tryz.prog g #[S x] W fun e w'=>e= .returned (.bool (p x))∧Below W.heap.size W w'):
 Calls Tryz.prog 216 #[v,.func (.func g) #[] #[]] w fun e w'=>e= .returned (.int .i64 (lC l p))∧Below w.heap.size w w':=by
 have hlen:=hv.bK;obtain⟨ao,cap,rfl,dM,gV,_⟩:=id hv;have Hv:=Qh hv;clear hv;have Hp:=Qh hp;clear hp;go_enter Tryz.func216,Tryz.ntmps216
 go_wp2_with fail
 go_loopw [8] (fun s8 wr=> ∃k:Nat,k≤l.length∧s8= .int .i64 k∧(l.take k).any p=false∧Below w.heap.size w wr) (fun i _=>l.length-(intOf i).toNat)
 case atStart=>exact⟨0,Nat.zero_le _,rfl,rfl,Qb _ _⟩
 case round=>
  obtain⟨k,hk,rfl,hr,hb⟩:=hrel;have Hr:=Qh hr;clear hr;by_cases hlt:k<l.length
  ·have gZ:Ok I wr:=hw.below (Qn _) hb;obtain⟨x,b,off,cap',dz,dC,yP⟩:=Jq Hv.q gZ k hlt;cases dC;have nP:=Qh dz;have jI:=Qh (Hp.q x (by rw[←dz];exact List.getElem_mem hlt));clear dz;go_wp2_with fail
   refine(jI.q _).mono ?_;rintro e w1 ⟨rfl,aG⟩;have aO:=hb.trans (aG.mono hb.size);clear aG jI;cases hpx:p x
   ·have Hn:=Qh (show(l.take (k+1)).any p=false by rw[List.take_succ_eq_append_getElem hlt,List.any_append,Hr.q,nP.q];simp[hpx]);clear hpx;go_wp2;go_roundw;case rel=>exact⟨k+1,by omega,by go_num,Hn.q,aO⟩
    case measure=>simp[intOf];omega
   ·have Hn:=Qh (PT (p:=p) hlt (by rw[nP.q];exact hpx) Hr.q);clear hpx;go_wp2;go_ret;exact⟨dK Hn.q.symm,aO⟩
  ·have Hn:=Qh (show lC l p= -1 from PS (by have:=Hr.q;rwa[List.take_of_length_le (by omega)]at this));go_wp2;go_ret;exact⟨dK Hn.q.symm,hb⟩
theorem Xec(I:IH)(v:Value)(l:List af)(hv:aY ib I v l)(g:Nat)(p:af→Bool)(w:World)(hw:Ok I w)(eg:∀args w,(callFunc g args).run Tryz.prog w= .ok (.enter g args) w)(hp:∀x∈l,∀W:World,Calls Tryz.prog g #[S x] W fun e w'=>e= .returned (.bool (p x))∧Below W.heap.size W w'):
 Calls Tryz.prog 175 #[v,.func (.func g) #[] #[]] w fun e w'=>e= .returned (.bool (l.any p))∧Below w.heap.size w w':=by
 have Hi:=Qh (Xge I v l hv g p w hw eg hp);obtain⟨ao,cap,rfl,dM,gV,_⟩:=id hv;clear hv hp eg;rcases GQ l p with⟨i,hi,e1,e2,_⟩|⟨e1,e2⟩
 ·have Ha:=Qh (show l.any p=true from List.any_eq_true.2 ⟨l[i],List.getElem_mem hi,e2⟩);have hd:decide ((0:Int)≤(i:Int))=true:=Qt (by omega);rw[e1]at Hi;clear e1 e2;go_enter Tryz.func175,Tryz.ntmps175
  go_wp2_with fail
  refine Hi.q.mono ?_;rintro e w1 ⟨rfl,aG⟩;go_wp2;go_ret;exact⟨iG Ha.q.symm,aG⟩
 ·have Ha:=Qh e2;rw[e1]at Hi;clear e1 e2;go_enter Tryz.func175,Tryz.ntmps175
  go_wp2_with fail
  refine Hi.q.mono ?_;rintro e w1 ⟨rfl,aG⟩;go_wp2;go_ret;exact⟨iG Ha.q.symm,aG⟩
theorem Xs2(l:List af):l.any (fun s=> !(comp s))=!(l.all comp):=by
 induction l with
 |nil=>rfl
 |cons x l ih=>rw[List.any_cons,List.all_cons,ih,Bool.not_and]
theorem VU(I:IH)(hI:cB I)(s:af)(hs:s.length≤4294967280)(w:World)(hw:Ok I w):
 Calls Tryz.prog 130 #[S s] w fun e w'=>e= .returned (.int .i64 (aR s))∧Below w.heap.size w w':=by
 have Ez:=Qh (Nh I hI s hs w hw);have Db:=Qh (fun(q:af) (h:q∈els s)=>Xsh h);by_cases ac4:s.length≤200;case neg=>
  have hd:decide (200<s.length)=true:=Qt (by omega);have Hp:=Qh (show aR s=6 by rw[aR,if_pos (by omega)]);go_enter Tryz.func130,Tryz.ntmps130
  go_wp2_with fail
  refine Ez.q.mono ?_;rintro e w1 ⟨v1,I1,rfl,aG,kM,aS,fE⟩;obtain⟨ao,cap,rfl,dM,gV,_⟩:=id fE;clear fE;go_wp2;go_ret;exact⟨dK Hp.q.symm,aG⟩
 have hd:decide (200<s.length)=false:=Qf (by omega);have Hp:=Qh (show aR s=if 8<(els s).length then 6 else if(els s).all comp then 0 else 7 by rw[aR,if_neg (by omega)]);generalize els s=l at Ez Hp Db;by_cases h8:8<l.length;case pos=>
  have Ni:=Qh (show aR s=6 by rw[Hp.q,if_pos h8]);go_enter Tryz.func130,Tryz.ntmps130
  go_wp2_with fail
  refine Ez.q.mono ?_;rintro e w1 ⟨v1,I1,rfl,aG,kM,aS,fE⟩;obtain⟨ao,cap,rfl,dM,gV,_⟩:=id fE;clear fE;go_wp2;go_ret;exact⟨dK Ni.q.symm,aG⟩
 have Ni:=Qh (show aR s=if l.all comp then 0 else 7 by rw[Hp.q,if_neg h8]);go_enter Tryz.func130,Tryz.ntmps130
 go_wp2_with fail
 refine Ez.q.mono ?_;rintro e w1 ⟨v1,I1,rfl,aG,kM,aS,fE⟩;have Jt:=Qh (Xec I1 v1 l fE 176 (fun s=> !(comp s)) w1 aS (fun _ _=>by kernel_rfl) (fun x hx W=>Xnt x (by have:=Db.q x hx;omega) W));rw[Xs2]at Jt;obtain⟨ao,cap,rfl,dM,gV,_⟩:=id fE;clear fE;go_wp2_with fail
 refine Jt.q.mono ?_;rintro e w2 ⟨rfl,aP⟩;cases ha:l.all comp
 ·have Hn:=Qh (show aR s=7 by rw[Ni.q,ha];rfl);clear ha;go_wp2;go_ret;exact⟨dK Hn.q.symm,aG.trans (aP.mono aG.size)⟩
 ·have Hn:=Qh (show aR s=0 by rw[Ni.q,ha];rfl);clear ha;go_wp2;go_ret;exact⟨dK Hn.q.symm,aG.trans (aP.mono aG.size)⟩
theorem Nj(I:IH)(hI:cB I)(s:af)(hs:s.length≤4294967280)(w:World)(hw:Ok I w):
 Calls Tryz.prog 136 #[S s] w (Ep ib I w (mK s).1 (mK s).2):=by
 have Hc:=Qh (VU I hI s hs w hw);by_cases h0:aR s=0
 ·rw[h0]at Hc;have Bt:=Qh (Nf h0);clear h0;go_enter Tryz.func136,Tryz.ntmps136
  go_wp2_with fail
  refine Hc.q.mono ?_;rintro e w1 ⟨rfl,aG⟩;have aS:Ok I w1:=hw.below (Qn _) aG;go_wp2_with fail
  refine(Nh I hI s hs _ aS).mono ?_;rintro e w2 ⟨v2,I2,rfl,aP,rO,bC,iA⟩;obtain⟨ao,cap,rfl,dM,gV,_⟩:=id iA;go_wp2;go_ret2;rw[Bt.q];exact⟨_,I2,rfl,aG.trans (aP.mono aG.size),rO.mono aG.size,bC,iA⟩
 ·have Bt:=Qh (VH h0);obtain⟨q,hq⟩:∃q,aR s=q:=⟨_,rfl⟩;have hn:(q !=0)=true:=by rw[←hq];simpa using h0
  rw[hq]at Bt Hc;clear hq h0;go_enter Tryz.func136,Tryz.ntmps136
  go_wp2_with fail
  refine Hc.q.mono ?_;rintro e w1 ⟨rfl,aG⟩;have aS:Ok I w1:=hw.below (Qn _) aG;go_wp2;go_ret2;rw[Bt.q];exact⟨_,I,rfl,aG,Ext.refl _ _,aS,aY.nil _ _⟩
theorem VV(I:IH)(hI:cB I)(s:af)(hs:s.length≤4294967280)(w:World)(hw:Ok I w):
 Calls Tryz.prog 83 #[S s] w fun e w'=>e= .returned (.tuple #[S (qL s).1,.int .i64 (qL s).2])∧Below w.heap.size w w':=by
 by_cases h0:aR s=0
 ·have uU:=Qh (by have:=Nj I hI s hs w hw;rw[Nf h0]at this;exact this);have sQ:=(CY h0).1;have PU:=(CY h0).2.1;have Nk:=Qh (show qL s=if s=[]then([],1)else(iT s,0) by rw[qL,if_neg (by omega)]);have yh:(eF (els s)).length≤200:=by rw[PI];exact sQ
  have Al:=Xsg (s:=s);have eX:iT s=eF ((els s).take ((els s).length-1)):=by rw[iT,List.dropLast_eq_take]
  have VW:=Qh (Xhk (els s) ((els s).length-1));generalize els s=l at uU yh Al eX VW PU;have Ez:=Qh Al;have Hup:=Qh eX;clear h0 Al eX;go_enter Tryz.func83,Tryz.ntmps83
  go_wp2_with fail
  refine uU.q.mono ?_;rintro e w1 ⟨v1,I1,rfl,aG,kM,aS,fE⟩;obtain⟨ao,cap,rfl,dM,gV,_⟩:=id fE;have rA:=Qh fE;clear fE kM;have uV:maxLen=9223372036854775807:=rfl;by_cases vv:l.length=0
  ·have Hn:=Qh (show qL s=([],1) by rw[Nk.q,if_pos (Ez.q.1 (List.eq_nil_of_length_eq_zero vv))]);have hz:((l.length:Int)==0)=true:=by rw[vv];rfl
   clear vv uV;go_wp2;go_ret2;rw[Hn.q];exact⟨rfl,aG⟩
  ·have Hn:=Qh (show qL s=(eF (l.take (l.length-1)),0) by
    rw[Nk.q,if_neg (fun e=>vv (by rw[Ez.q.2 e];rfl)),Hup.q])
   have hz:((l.length:Int)==0)=false:=by rw[beq_eq_false_iff_ne];omega
   have hlp:1≤l.length:=by omega
   have hi:IntKind.i64.wrap ((l.length:Int)-1)=(l.length:Int)-1:=IntWalk.i64_in _ (by omega);have hj:(0:Int)≤(l.length:Int)-1:=by omega
   have Ef:(l.length:Int)-1≤(cap:Int):=by omega
   have hm:((l.length:Int)-1).toNat=l.length-1:=by omega
   have Ju:=Qh (rA.q.C9 (n:=l.length-1) (by omega));have Hj2:=Qh (Xp6 I1 _ _ Ju.q (by have:=VW.q;omega) (by rw[List.length_take];omega) w1 aS);clear vv uV;go_wp2_with fail
   refine Hj2.q.mono ?_;rintro e w2 ⟨rfl,aP⟩;go_wp2;go_ret2;rw[Hn.q];exact⟨rfl,aG.trans (aP.mono aG.size)⟩
 ·have uU:=Qh (by have:=Nj I hI s hs w hw;rw[VH h0]at this;exact this);obtain⟨q,hq⟩:∃q,aR s=q:=⟨_,rfl⟩;have hn:(q !=0)=true:=by rw[←hq];simpa using h0
  have Nk:=Qh (show qL s=([],q) by rw[qL,if_pos h0,hq]);rw[hq]at uU;clear hq h0;go_enter Tryz.func83,Tryz.ntmps83
  go_wp2_with fail
  refine uU.q.mono ?_;rintro e w1 ⟨v1,I1,rfl,aG,kM,aS,fE⟩;obtain⟨ao,cap,rfl,dM,gV,_⟩:=id fE;go_wp2;go_ret2;rw[Nk.q];exact⟨rfl,aG⟩
theorem PV(I:IH)(hI:cB I)(p d:af)(hp:p.length≤4294967280)(hd:d.length≤4294967280)(w:World)(hw:Ok I w):
 Calls Tryz.prog 81 #[S p,S d] w fun e w'=>e= .returned (.bool (under p d))∧Below w.heap.size w w':=by
 have uU:=Qh (Nj I hI p hp w hw);have Hu:=Qh (show under p d=(decide (aR p=0)&&decide (aR d=0)&&(els d).isPrefixOf (els p))from rfl);have nI:(mK p).2=aR p:=by rw[mK];split<;>simp_all
 have Mi:(mK d).2=aR d:=by rw[mK];split<;>simp_all
 have VX:=Qh (fun h:aR p=0=>show(mK p).1=els p by rw[Nf h]);have VY:=Qh (fun h:aR d=0=>show(mK d).1=els d by rw[Nf h]);have PW:=Qh (fun I hI w hw=>Nj I hI d hd w hw);rw[nI]at uU;rw[Mi]at PW;generalize(mK p).1=l at uU VX;generalize(mK d).1=m at PW VY;clear nI Mi;go_enter Tryz.func81,Tryz.ntmps81
 go_wp2_with fail
 refine uU.q.mono ?_;rintro e w1 ⟨v1,I1,rfl,aG,kM,aS,fE⟩;have jA:=hI.mono (kM.keep hw (Qn _));have rA:=Qh fE;clear fE;obtain⟨ao0,cap0,rfl,_,_,_⟩:=id rA.q;go_wp2_with fail
 refine(PW.q I1 jA _ aS).mono ?_;rintro e w2 ⟨v2,I2,rfl,aP,rO,bC,iA⟩;have fE:=rA.q.mono (rO.keep aS (Qn _));have bS:=aG.trans (aP.mono aG.size);obtain⟨ao,cap,e1,dM,gV,_⟩:=id fE;cases e1;obtain⟨vC,cap2,rfl,xn,uN,_⟩:=id iA;have hlen:=fE.bK;have Da:=iA.bK;have Hl:=Qh fE;have Hm:=Qh iA;clear fE iA rA aG aP kM rO;by_cases h0:aR p=0;case neg=>
  have Hn:=Qh (show under p d=false by rw[Hu.q,Qf h0];rfl);obtain⟨q,hq⟩:∃q,aR p=q:=⟨_,rfl⟩;have hn:(q==0)=false:=by rw[←hq];simpa using h0
  rw[hq];clear hq h0;go_wp2;go_ret;exact⟨iG Hn.q.symm,bS⟩
 by_cases h1:aR d=0;case neg=>
  have Hn:=Qh (show under p d=false by rw[Hu.q,Qf h1,Bool.and_false];rfl);obtain⟨q,hq⟩:∃q,aR d=q:=⟨_,rfl⟩;have hn:(q==0)=false:=by rw[←hq];simpa using h1
  rw[hq,h0];clear hq h1 h0;go_wp2;go_ret;exact⟨iG Hn.q.symm,bS⟩
 have VZ:=Qh (show under p d=m.isPrefixOf l by rw[Hu.q,Qt h0,Qt h1,VX.q h0,VY.q h1];rfl);rw[h0,h1];clear h0 h1;by_cases q9:m.length≤l.length;case neg=>
  have xq:decide (m.length≤l.length)=false:=Qf q9;have Hn:=Qh (show under p d=false by rw[VZ.q];exact Xig (by omega));go_wp2;go_ret;exact⟨iG Hn.q.symm,bS⟩
 have xq:decide (m.length≤l.length)=true:=Qt q9;have hcc:m.length≤cap0:=by omega
 have Hn:=Qh (show under p d=decide (l.take m.length=m) by rw[VZ.q];exact Xj1 l m);have Jv:=Qh (Xn0 I2 _ _ _ _ (Hl.q.C9 q9) Hm.q w2 bC);generalize decide (l.take m.length=m)=bb at Hn Jv;go_wp2_with fail
 refine Jv.q.mono ?_;rintro e w3 ⟨rfl,fu⟩;go_wp2;go_ret;exact⟨iG Hn.q.symm,bS.trans (fu.mono bS.size)⟩
def mO(x y:af):Int:=if Op.bytesLess x y then -1 else if Op.bytesLess y x then 1 else 0
theorem GR(x:af)(w:World):Calls Tryz.prog 183 #[S x] w fun e w'=>e= .returned (.bool false)∧w'=w:=by
 have f:(x !=x)=false:=by simp
 have f2:(x==x)=true:=by simp
 go_enter Tryz.func183,Tryz.ntmps183
 go_wp2;go_ret;exact⟨by first|rfl|(simp),rfl⟩
theorem Xr6(x y:af)(w:World):Calls Tryz.prog 141 #[S x,S y] w fun e w'=>e= .returned (.int .i64 (mO x y))∧w'=w:=by
 rcases Jj x y with ht|ht|ht
 ·have Hn:=Qh (show mO x y= -1 by rw[mO,ht];rfl);go_enter Tryz.func141,Tryz.ntmps141
  go_wp2_with fail
  refine(GR x _).mono ?_;rintro e w1 ⟨rfl,rfl⟩;go_wp2_with fail
  refine(GR y _).mono ?_;rintro e w2 ⟨rfl,rfl⟩;go_wp2;go_ret;exact⟨dK Hn.q.symm,rfl⟩
 ·have f1:Op.bytesLess x y=false:=by rw[ht];exact Bn _
  have f2:Op.bytesLess y x=false:=by rw[ht];exact Bn _
  have f3:(x==y)=true:=by simp[ht]
  have f4:(!(x==y))=false:=by simp[ht]
  have Hn:=Qh (show mO x y=0 by rw[mO,f1,f2];rfl);clear ht;go_enter Tryz.func141,Tryz.ntmps141
  go_wp2_with fail
  refine(GR x _).mono ?_;rintro e w1 ⟨rfl,rfl⟩;go_wp2_with fail
  refine(GR y _).mono ?_;rintro e w2 ⟨rfl,rfl⟩;go_wp2;go_ret;exact⟨dK Hn.q.symm,rfl⟩
 ·have f1:=Jk ht;have f3:(x==y)=false:=by simpa using(Jl ht).symm
  have f4:(!(x==y))=true:=by rw[f3];rfl
  have Hn:=Qh (show mO x y=1 by rw[mO,f1,ht];rfl);go_enter Tryz.func141,Tryz.ntmps141
  go_wp2_with fail
  refine(GR x _).mono ?_;rintro e w1 ⟨rfl,rfl⟩;go_wp2_with fail
  refine(GR y _).mono ?_;rintro e w2 ⟨rfl,rfl⟩;go_wp2;go_ret;exact⟨dK Hn.q.symm,rfl⟩
theorem Xmm(x y:af):(mO x y= -1∧Op.bytesLess x y=true)∨(mO x y=0∧x=y)∨(mO x y=1∧Op.bytesLess y x=true):=by
 rcases Jj x y with ht|ht|ht
 ·exact .inl ⟨by rw[mO,ht];rfl,ht⟩
 ·exact .inr (.inl ⟨by rw[mO,ht,Bn];rfl,ht⟩)
 ·exact .inr (.inr ⟨by rw[mO,Jk ht,ht];rfl,ht⟩)
theorem Xfk(I:IH)(v1 v2:Value)(l m:List af)(vg:aY ib I v1 l)(yN:aY ib I v2 m)(w:World)(hw:Ok I w):
 Calls Tryz.prog 139 #[v1,v2,.func (.func 141) #[] #[]] w fun e w'=>e= .returned (.int .i64 (cmpL l m))∧Below w.heap.size w w':=by
 have hlen:=vg.bK;have Da:=yN.bK;obtain⟨ao,cap,rfl,dM,gV,_⟩:=id vg;obtain⟨vC,cap2,rfl,xn,uN,_⟩:=id yN;have Hl:=Qh vg;have Hm:=Qh yN;clear vg yN;have eg:∀args w,(callFunc 141 args).run Tryz.prog w= .ok (.enter 141 args) w:=fun _ _=>by kernel_rfl
 go_enter Tryz.func139,Tryz.ntmps139
 go_wp2_with fail
 go_loopw [13] (fun s13 wr=> ∃k:Nat,k≤l.length∧k≤m.length∧s13= .int .i64 k∧l.take k=m.take k∧Below w.heap.size w wr) (fun i _=>l.length-(intOf i).toNat)
 case atStart=>exact⟨0,Nat.zero_le _,Nat.zero_le _,rfl,rfl,Qb _ _⟩
 case round=>
  obtain⟨k,hk,yj,rfl,hr,hb⟩:=hrel;have Hr:=Qh hr;have Nl:=Qh (Xoo hr hk yj);clear hr;have gZ:Ok I wr:=hw.below (Qn _) hb;by_cases hlt:k<l.length;case neg=>
   have V3:=Qh (show l.drop k=[]from List.drop_of_length_le (by omega));by_cases kK:k<m.length
   ·have xq:decide (l.length<m.length)=true:=Qt (by omega);have Hn:=Qh (show cmpL l m= -1 by rw[Nl.q,V3.q,List.drop_eq_getElem_cons kK];rfl);go_wp2;go_ret;exact⟨dK Hn.q.symm,hb⟩
   ·have xq:decide (l.length<m.length)=false:=Qf (by omega);have Hn:=Qh (show cmpL l m=0 by rw[Nl.q,V3.q,List.drop_of_length_le (by omega)];rfl);go_wp2;go_ret;exact⟨dK Hn.q.symm,hb⟩
  obtain⟨x,b,off,cap',dz,dC,uP⟩:=Jq Hl.q gZ k hlt;cases dC;by_cases kK:k<m.length;case neg=>
   have xq:decide (m.length≤k)=true:=Qt (by omega);have Hn:=Qh (show cmpL l m=1 by rw[Nl.q,List.drop_of_length_le (l:=m) (by omega),List.drop_eq_getElem_cons hlt];rfl);clear dz;go_wp2;go_ret;exact⟨dK Hn.q.symm,hb⟩
  have xq:decide (m.length≤k)=false:=Qf (by omega);obtain⟨y,b',off',wF,jJ,dC,hy0⟩:=Jq Hm.q gZ k kK;cases dC;have Jw:=Qh (show cmpL l m=cmpL (x::l.drop (k+1)) (y::m.drop (k+1)) by rw[Nl.q,List.drop_eq_getElem_cons hlt,List.drop_eq_getElem_cons kK,dz,jJ]);have nP:=Qh dz;have Nn:=Qh jJ;have Hc:=Qh (Xr6 x y);have fK:=Xmm x y;generalize mO x y=c at Hc fK;clear dz jJ;rcases fK with⟨hc,ht⟩|⟨hc,ht⟩|⟨hc,ht⟩
  ·subst hc;have Hn:=Qh (show cmpL l m= -1 by rw[Jw.q];exact Xjf ht _ _);clear ht;go_wp2_with fail
   refine(Hc.q _).mono ?_;rintro e w1 ⟨rfl,rfl⟩;go_wp2;go_ret;exact⟨dK Hn.q.symm,hb⟩
  ·subst hc;have Hn:=Qh (show l.take (k+1)=m.take (k+1) by rw[List.take_succ_eq_append_getElem hlt,List.take_succ_eq_append_getElem kK,Hr.q,nP.q,Nn.q,ht]);clear ht;go_wp2_with fail
   refine(Hc.q _).mono ?_;rintro e w1 ⟨rfl,rfl⟩;go_wp2;go_roundw;case rel=>exact⟨k+1,by omega,by omega,by go_num,Hn.q,hb⟩
   case measure=>simp[intOf];omega
  ·subst hc;have Hn:=Qh (show cmpL l m=1 by rw[Jw.q];exact Xjg ht _ _);clear ht;go_wp2_with fail
   refine(Hc.q _).mono ?_;rintro e w1 ⟨rfl,rfl⟩;go_wp2;go_ret;exact⟨dK Hn.q.symm,hb⟩
theorem PX(I:IH)(hI:cB I)(p d:af)(hp:p.length≤4294967280)(hd:d.length≤4294967280)(w:World)(hw:Ok I w):
 Calls Tryz.prog 87 #[S p,S d] w fun e w'=>e= .returned (.int .i64 (kF p d))∧Below w.heap.size w w':=by
 have Hu:=Qh (Xso p d);have V4:=Qh (Nh I hI p hp w hw);have V5:=Qh (fun I hI w hw=>Nh I hI d hd w hw);generalize els p=l at Hu V4;generalize els d=m at Hu V5;go_enter Tryz.func87,Tryz.ntmps87
 go_wp2_with fail
 refine V4.q.mono ?_;rintro e w1 ⟨v1,I1,rfl,aG,kM,aS,fE⟩;have jA:=hI.mono (kM.keep hw (Qn _));have rA:=Qh fE;clear fE;obtain⟨ao0,cap0,rfl,_,_,_⟩:=id rA.q;go_wp2_with fail
 refine(V5.q I1 jA _ aS).mono ?_;rintro e w2 ⟨v2,I2,rfl,aP,rO,bC,iA⟩;have fE:=rA.q.mono (rO.keep aS (Qn _));have bS:=aG.trans (aP.mono aG.size);have Hc:=Qh (Xfk I2 _ _ l m fE iA w2 bC);obtain⟨vC,cap2,rfl,_,_,_⟩:=id iA;clear fE iA rA kM rO;go_wp2_with fail
 refine Hc.q.mono ?_;rintro e w3 ⟨rfl,fu⟩;go_wp2;go_ret;exact⟨dK Hu.q.symm,bS.trans (fu.mono bS.size)⟩
abbrev mP(x y:aQ):Bool:=ic (els x.ag) (els y.ag)
theorem Dc{x y:aQ}(h:mP x y=true):x.ag≠y.ag:=fun e=>Jn h (by rw[e])
theorem PY(x y:aQ):mP x y=true∨x.ag=y.ag∨mP y x=true:=by
 rcases Vz (els x.ag) (els y.ag)with h|h|h
 ·exact .inl h
 ·exact .inr (.inl (Xsi h))
 ·exact .inr (.inr h)
def iW(e:aQ):Bool→List aQ→List aQ→List aQ
 |d,out,[]=>if d then out else out++[e]
 |d,out,y::l=>iW e (d || !(mP y e)) ((if !d&& !(mP y e)then out++[e]else out)++(if y.ag==e.ag then []else [y])) l
def iX(t:List aQ)(e:aQ):List aQ:=iW e false [] t
def bG(t:List aQ)(e:aQ):List aQ×Int:=
 if aL e≠0 then([],aL e)
 else if 3<e.aj then
  if dP t e.ag=none∧e.ag≠[]then([],9)
  else if e.aj=4 then(t.filter fun x=> !(under x.ag e.ag),0)else(t,0)
 else if bn t (iT e.ag)≠0 then([],bn t (iT e.ag))
 else match dP t e.ag with
  |some y=>if(y.aj==2) !=(e.aj==2)then([],8)else(iX t e,0)
  |none=>if 5000≤t.length then([],6)else(iX t e,0)
theorem V6(e:aQ)(l:List aQ):∀out,iW e true out l=out++l.filter fun y=> !(y.ag==e.ag):=by
 induction l with
 |nil=>intro out;simp[iW]
 |cons y l ih=>
  intro out;rw[iW];simp only[Bool.true_or,Bool.not_true,Bool.false_and,Bool.false_eq_true,if_false];rw[ih,List.filter_cons];cases h:(y.ag==e.ag)<;>simp
theorem V7(h:gz t)(e:aQ):∃A B,iX t e=A++e::B∧(∀a∈A,a∈t∧mP a e=true)∧(∀b∈B,b∈t∧mP e b=true)∧(∀z∈t,z.ag≠e.ag→z∈A∨z∈B)∧gz A∧gz B:=by
 have key:∀(l:List aQ),gz l→ ∀out,∃A B,iW e false out l=out++(A++e::B)∧(∀a∈A,a∈l∧mP a e=true)∧(∀b∈B,b∈l∧mP e b=true)∧(∀z∈l,z.ag≠e.ag→z∈A∨z∈B)∧gz A∧gz B:=by
  intro l;induction l with
  |nil=>intro _ out;exact⟨[],[],by simp[iW],by simp,by simp,by simp,List.Pairwise.nil,List.Pairwise.nil⟩
  |cons y l ih=>
   intro hs out;obtain⟨h1,h2⟩:=List.pairwise_cons.1 hs;rw[iW];cases hb:mP y e
   ·simp only[Bool.not_false,Bool.or_true,Bool.and_self,if_true];rw[V6];have kZ:∀z∈l,mP e z=true:=by
     intro z hz;rcases PY e y with k|k|k
     ·exact Es k (h1 z hz)
     ·show ic (els e.ag) _=true;rw[k];exact h1 z hz
     ·rw[hb]at k;exact absurd k (by simp)
    have hf:(l.filter fun z=> !(z.ag==e.ag))=l:=List.filter_eq_self.2 fun z hz=>by
     have:=(Dc (kZ z hz)).symm;simpa using this
    rw[hf];by_cases k:y.ag=e.ag
    ·rw[if_pos (by simpa using k)];refine⟨[],l,by simp,by simp,fun b hb=>⟨List.mem_cons_of_mem _ hb,kZ b hb⟩,fun z hz aZ=> ?_,List.Pairwise.nil,h2⟩;rcases List.mem_cons.1 hz with rfl|hz
     ·exact absurd k aZ
     ·exact .inr hz
    ·have hxy:mP e y=true:=by
      rcases PY e y with h|h|h
      ·exact h
      ·exact absurd h.symm k
      ·rw[h]at hb;exact absurd hb (by simp)
     rw[if_neg (by simpa using k)];refine⟨[],y::l,by simp,by simp,fun b hb=>⟨hb,?_⟩,fun z hz _=> .inr hz,List.Pairwise.nil,hs⟩;rcases List.mem_cons.1 hb with rfl|hb
     ·exact hxy
     ·exact kZ b hb
   ·have aZ:(y.ag==e.ag)=false:=by simpa using Dc hb
    simp only[Bool.not_true,Bool.or_false,Bool.and_false,Bool.false_eq_true,if_false,aZ];obtain⟨A,B,q,a1,a2,a3,a4,a5⟩:=ih h2 (out++[y]);refine⟨y::A,B,by rw[q];simp,fun a ha=> ?_,fun b hb=>⟨List.mem_cons_of_mem _ (a2 b hb).1,(a2 b hb).2⟩,fun z hz hzn=> ?_,List.pairwise_cons.2 ⟨fun a ha=>h1 a (a1 a ha).1,a4⟩,a5⟩
    ·rcases List.mem_cons.1 ha with rfl|ha
     ·exact⟨List.mem_cons_self ..,hb⟩
     ·exact⟨List.mem_cons_of_mem _ (a1 a ha).1,(a1 a ha).2⟩
    ·rcases List.mem_cons.1 hz with rfl|hz
     ·exact .inl (List.mem_cons_self ..)
     ·rcases a3 z hz hzn with h|h
      ·exact .inl (List.mem_cons_of_mem _ h)
      ·exact .inr h
 obtain⟨A,B,q,r⟩:=key t h [];exact⟨A,B,q,r⟩
theorem Jy(h:gz t)(e:aQ):gz (iX t e):=by
 obtain⟨A,B,q,a1,a2,_,a4,a5⟩:=V7 h e;rw[q];refine List.pairwise_append.2 ⟨a4,List.pairwise_cons.2 ⟨fun b hb=>(a2 b hb).2,a5⟩,fun a ha b hb=> ?_⟩;rcases List.mem_cons.1 hb with rfl|hb
 ·exact(a1 a ha).2
 ·exact Es (a1 a ha).2 (a2 b hb).2
theorem Bu(h:gz t)(e z:aQ):z∈iX t e↔z=e∨(z∈t∧z.ag≠e.ag):=by
 obtain⟨A,B,q,a1,a2,a3,_,_⟩:=V7 h e;rw[q,List.mem_append,List.mem_cons];constructor
 ·rintro(hz|hz|hz)
  ·exact .inr ⟨(a1 z hz).1,Dc (a1 z hz).2⟩
  ·exact .inl hz
  ·exact .inr ⟨(a2 z hz).1,(Dc (a2 z hz).2).symm⟩
 ·rintro(hz|⟨hz,hn⟩)
  ·exact .inr (.inl hz)
  ·rcases a3 z hz hn with h|h
   ·exact .inl h
   ·exact .inr (.inr h)
theorem Xqc(h:gz t)(e:aQ):dP (iX t e) e.ag=some e:=Nc (Jy h e) ((Bu h e e).2 (.inl rfl))
theorem Xkd(h:gz t)(e:aQ)(hp:p≠e.ag):dP (iX t e) p=dP t p:=by
 cases hg:dP t p with
 |some x=>
  obtain⟨hx,rfl⟩:=VC hg;exact Nc (Jy h e) ((Bu h e x).2 (.inr ⟨hx,hp⟩))
 |none=>
  refine Xn6 fun z hz k=> ?_;rcases(Bu h e z).1 hz with rfl|⟨hz,_⟩
  ·exact hp k.symm
  ·have:=Nc h hz;rw[k,hg]at this;exact absurd this (by simp)
theorem Xp8{l:List af}(h:l≠[])(hc:∀p∈l,p≠[]):eF l≠[]:=by
 cases l with
 |nil=>exact absurd rfl h
 |cons p l=>
  cases l with
  |nil=>exact hc p (by simp)
  |cons q l=>rw[GN p (by simp)];simp
theorem Xsf(h:aR p=0):els (iT p)=(els p).dropLast:=by
 obtain⟨_,_,hc⟩:=CY h;have hd:∀q∈(els p).dropLast,comp q=true:=fun q hq=>hc q (List.dropLast_subset _ hq);unfold iT;by_cases hn:(els p).dropLast=[]
 ·rw[hn];rfl
 ·exact Xoi (fun q hq=>Xjd (hd q hq)) (Xp8 hn fun q hq=>Xsn (hd q hq))
theorem Xpb{d:af}(h:aR p=0)(hu:under (iT p) d=true):under p d=true:=by
 simp only[under,Bool.and_eq_true,decide_eq_true_eq]at hu ⊢;obtain⟨⟨_,h2⟩,h3⟩:=hu;refine⟨⟨h,h2⟩,?_⟩;rw[List.isPrefixOf_iff_prefix]at h3 ⊢;rw[Xsf h]at h3;exact h3.trans (List.dropLast_prefix _)
theorem De(h:aL e=0):1≤e.aj∧e.aj≤6∧aR e.ag=0∧(e.ag=[]→5≤e.aj):=by
 unfold aL at h;by_cases h1:e.aj<1∨6<e.aj
 ·rw[if_pos h1]at h;omega
 rw[if_neg h1]at h;by_cases h2:aR e.ag=0;case neg=>rw[if_pos h2]at h;exact absurd h h2
 rw[if_neg (by omega)]at h;by_cases h3:e.ag=[]∧e.aj<5
 ·rw[if_pos h3]at h;omega
 exact⟨by omega,by omega,h2,fun hp=>Int.not_lt.1 fun hk=>h3 ⟨hp,hk⟩⟩
theorem V8:bn t p=0↔p=[]∨ ∃x,dP t p=some x∧x.aj=2:=by
 unfold bn;by_cases h:p=[]
 ·rw[if_pos h];exact⟨fun _=> .inl h,fun _=>rfl⟩
 ·rw[if_neg h];cases hg:dP t p with
  |none=>
   constructor
   ·intro k;simp at k
   ·rintro(k|⟨x,k,_⟩)
    ·exact absurd k h
    ·simp at k
  |some x=>
   show(if x.aj≠2 then(10:Int)else 0)=0↔_;by_cases hk:x.aj=2
   ·rw[if_neg (by omega)];exact⟨fun _=> .inr ⟨x,rfl,hk⟩,fun _=>rfl⟩
   ·rw[if_pos hk];constructor
    ·intro k;omega
    ·rintro(k|⟨y,k,k'⟩)
     ·exact absurd k h
     ·cases k;exact absurd k' hk
theorem V9(h:CZ t)(he:aL e=0)(hk:e.aj=1∨e.aj=2∨e.aj=3)(hu:bn t (iT e.ag)=0)(hs:∀y,dP t e.ag=some y→(y.aj=2↔e.aj=2)):CZ (iX t e):=by
 obtain⟨_,_,hp,Gd⟩:=De he;have aZ:e.ag≠[]:=fun k=>by have:=Gd k;omega
 refine⟨fun z hz=> ?_,fun z hz=> ?_,Jy h.yw e,fun z hz=> ?_⟩
 ·rcases(Bu h.yw e z).1 hz with rfl|⟨hz,_⟩
  ·exact he
  ·exact h.C8 z hz
 ·rcases(Bu h.yw e z).1 hz with rfl|⟨hz,_⟩
  ·exact hk
  ·exact h.aj z hz
 ·have Mj:bn t (iT z.ag)=0:=by
   rcases(Bu h.yw e z).1 hz with rfl|⟨hz,_⟩
   ·exact hu
   ·exact h.up z hz
  rw[V8]at Mj ⊢;rcases Mj with k|⟨x,k,k'⟩
  ·exact .inl k
  ·by_cases q:iT z.ag=e.ag
   ·refine .inr ⟨e,by rw[q];exact Xqc h.yw e,?_⟩;rw[q]at k;exact(hs x k).1 k'
   ·exact .inr ⟨x,by rw[Xkd h.yw e q];exact k,k'⟩
theorem Xsj(h:CZ t)(d:af):CZ (t.filter fun x=> !(under x.ag d)):=by
 have hm:∀z,z∈(t.filter fun x=> !(under x.ag d))↔z∈t∧under z.ag d=false:=fun z=>by simp[List.mem_filter]
 have hs:gz (t.filter fun x=> !(under x.ag d)):=List.Pairwise.filter _ h.yw;refine⟨fun z hz=>h.C8 z ((hm z).1 hz).1,fun z hz=>h.aj z ((hm z).1 hz).1,hs,fun z hz=> ?_⟩;obtain⟨lM,oW⟩:=(hm z).1 hz;have hp:=(De (h.C8 z lM)).2.2.1;have Mj:=h.up z lM;rw[V8]at Mj ⊢;rcases Mj with k|⟨x,k,k'⟩
 ·exact .inl k
 ·obtain⟨hx,IR⟩:=VC k;refine .inr ⟨x,?_,k'⟩;rw[←IR];refine Nc hs ((hm x).2 ⟨hx,?_⟩);cases q:under x.ag d with
  |false=>rfl
  |true=>
   rw[IR]at q;rw[Xpb hp q]at oW;exact absurd oW (by simp)
theorem Xo0{t':List aQ}(h:CZ t)(ha:bG t e=(t',0)):CZ t':=by
 unfold bG at ha;by_cases h0:aL e=0;case neg=>rw[if_pos h0]at ha;exact absurd (Prod.mk.inj ha).2 h0
 rw[if_neg (by omega)]at ha;have hk:=De h0;by_cases h1:3<e.aj
 ·rw[if_pos h1]at ha;by_cases h2:dP t e.ag=none∧e.ag≠[]
  ·rw[if_pos h2]at ha;simp at ha
  ·rw[if_neg h2]at ha;by_cases h3:e.aj=4
   ·rw[if_pos h3]at ha;rw[←(Prod.mk.inj ha).1];exact Xsj h _
   ·rw[if_neg h3]at ha;rw[←(Prod.mk.inj ha).1];exact h
 ·rw[if_neg h1]at ha;by_cases h2:bn t (iT e.ag)=0;case neg=>rw[if_pos h2]at ha;exact absurd (Prod.mk.inj ha).2 h2
  rw[if_neg (by omega)]at ha;cases hg:dP t e.ag with
  |none=>
   rw[hg]at ha;change (if 5000≤t.length then(([]:List aQ),(6:Int))else(iX t e,0))=_ at ha;by_cases h3:5000≤t.length
   ·rw[if_pos h3]at ha;simp at ha
   ·rw[if_neg h3]at ha;rw[←(Prod.mk.inj ha).1];exact V9 h h0 (by omega) h2 fun y hy=>by rw[hg]at hy;cases hy
  |some y=>
   rw[hg]at ha;change (if((y.aj==2) !=(e.aj==2))=true then(([]:List aQ),(8:Int))else(iX t e,0))=_ at ha;by_cases h3:((y.aj==2) !=(e.aj==2))=true
   ·rw[if_pos h3]at ha;simp at ha
   ·rw[if_neg h3]at ha;rw[←(Prod.mk.inj ha).1];refine V9 h h0 (by omega) h2 fun z hz=> ?_;rw[hg]at hz;cases hz;have h4:(y.aj==2)=(e.aj==2):=by simpa using h3
    constructor
    ·intro k;rw[k]at h4;simpa using h4.symm
    ·intro k;rw[k]at h4;simpa using h4
def Df(t:List aQ)(e:aQ):List aQ:=if 3<e.aj then(if e.aj=4 then t.filter fun x=> !(under x.ag e.ag)else t)else iX t e
structure Jz (t:List aQ) (e:aQ):Prop where
 C8:aL e=0
 there:3<e.aj→ ¬(dP t e.ag=none∧e.ag≠[])
 up:e.aj≤3→bn t (iT e.ag)=0
 like:e.aj≤3→ ∀y,dP t e.ag=some y→(y.aj==2)=(e.aj==2)
 room:e.aj≤3→dP t e.ag=none→t.length<5000
theorem l8{a:List aQ}:bG t e=(a,0)↔Jz t e∧a=Df t e:=by
 unfold bG Df;by_cases h0:aL e=0;case neg=>
  rw[if_pos h0];exact⟨fun h=>absurd (Prod.mk.inj h).2 h0,fun h=>absurd h.1.C8 h0⟩
 rw[if_neg (by omega)];by_cases h1:3<e.aj
 ·rw[if_pos h1,if_pos h1];by_cases h2:dP t e.ag=none∧e.ag≠[]
  ·rw[if_pos h2];exact⟨fun h=>absurd (Prod.mk.inj h).2 (by decide),fun h=>absurd h2 (h.1.there h1)⟩
  ·rw[if_neg h2];have hp:Jz t e:=⟨h0,fun _=>h2,fun k=>by omega,fun k=>by omega,fun k=>by omega⟩;by_cases h3:e.aj=4
   ·rw[if_pos h3,if_pos h3];exact⟨fun h=>⟨hp,(Prod.mk.inj h).1.symm⟩,fun h=>by rw[h.2]⟩
   ·rw[if_neg h3,if_neg h3];exact⟨fun h=>⟨hp,(Prod.mk.inj h).1.symm⟩,fun h=>by rw[h.2]⟩
 ·rw[if_neg h1,if_neg h1];by_cases h2:bn t (iT e.ag)=0;case neg=>
   rw[if_pos h2];exact⟨fun h=>absurd (Prod.mk.inj h).2 h2,fun h=>absurd (h.1.up (by omega)) h2⟩
  rw[if_neg (by omega)];cases hg:dP t e.ag with
  |none=>
   show(if 5000≤t.length then(([]:List aQ),(6:Int))else(iX t e,0))=(a,0)↔_;by_cases h3:5000≤t.length
   ·rw[if_pos h3];exact⟨fun h=>absurd (Prod.mk.inj h).2 (by decide),fun h=>absurd (h.1.room (by omega) hg) (by omega)⟩
   ·rw[if_neg h3];exact⟨fun h=>⟨⟨h0,fun k=>absurd k h1,fun _=>h2,fun _ y hy=>(by rw[hg]at hy;cases hy),fun _ _=>(by omega)⟩,(Prod.mk.inj h).1.symm⟩,fun h=>by rw[h.2]⟩
  |some y=>
   show(if((y.aj==2) !=(e.aj==2))=true then(([]:List aQ),(8:Int))else(iX t e,0))=(a,0)↔_;by_cases h3:((y.aj==2) !=(e.aj==2))=true
   ·rw[if_pos h3];refine⟨fun h=>absurd (Prod.mk.inj h).2 (by decide),fun h=> ?_⟩;have:=h.1.like (by omega) y hg;rw[this]at h3;simp at h3
   ·rw[if_neg h3];exact⟨fun h=>⟨⟨h0,fun k=>absurd k h1,fun _=>h2,fun _ z hz=>(by rw[hg]at hz;cases hz;simpa using h3),fun _ hn=>(by rw[hg]at hn;cases hn)⟩,(Prod.mk.inj h).1.symm⟩,fun h=>by rw[h.2]⟩
def Dh(e z:aQ):Prop:=(e.aj≤3→z.ag≠e.ag)∧(e.aj=4→under z.ag e.ag=false)
theorem Xr4(h:gz t)(e z:aQ):z∈Df t e↔(e.aj≤3∧z=e)∨(z∈t∧Dh e z):=by
 unfold Df Dh;by_cases h1:3<e.aj
 ·rw[if_pos h1];by_cases h2:e.aj=4
  ·rw[if_pos h2,List.mem_filter];constructor
   ·rintro⟨a,b⟩;exact .inr ⟨a,fun k=>by omega,fun _=>by simpa using b⟩
   ·rintro(⟨k,_⟩|⟨a,_,b⟩)
    ·omega
    ·exact⟨a,by simpa using b h2⟩
  ·rw[if_neg h2];constructor
   ·intro a;exact .inr ⟨a,fun k=>by omega,fun k=>absurd k h2⟩
   ·rintro(⟨k,_⟩|⟨a,_⟩)
    ·omega
    ·exact a
 ·rw[if_neg h1,Bu h];constructor
  ·rintro(k|⟨a,b⟩)
   ·exact .inl ⟨by omega,k⟩
   ·exact .inr ⟨a,fun _=>b,fun k=>by omega⟩
  ·rintro(⟨_,k⟩|⟨a,b,_⟩)
   ·exact .inl k
   ·exact .inr ⟨a,b (by omega)⟩
theorem Xpv(t:List aQ)(e:aQ):(iX t e).length≤t.length+1:=by
 have:∀(l out:List aQ) (d:Bool),(iW e d out l).length≤out.length+l.length+1:=by
  intro l;induction l with
  |nil=>intro out d;cases d<;>simp[iW]
  |cons y l ih=>
   intro out d;rw[iW];cases hc:(!d&& !(mP y e))
   ·refine Nat.le_trans (ih _ _) ?_;cases h:(y.ag==e.ag)<;>simp<;>omega
   ·have hd:(d || !(mP y e))=true:=by
     simp only[Bool.and_eq_true]at hc;rw[hc.2];simp
    rw[hd,V6];have:=List.length_filter_le (fun y:aQ=> !(y.ag==e.ag)) l;cases h:(y.ag==e.ag)<;>simp<;>omega
 simpa[iX]using this t [] false
theorem Xr5(t:List aQ)(e:aQ):(Df t e).length≤t.length+1:=by
 unfold Df;by_cases h1:3<e.aj
 ·rw[if_pos h1];by_cases h2:e.aj=4
  ·rw[if_pos h2];exact Nat.le_trans (List.length_filter_le _ _) (Nat.le_succ _)
  ·rw[if_neg h2];exact Nat.le_succ _
 ·rw[if_neg h1];exact Xpv t e
def bs(p:Nat→Bool)(lo hi:Nat):Nat:=
 if h:lo<hi then(if p ((lo+hi) / 2)then bs p lo ((lo+hi) / 2)else bs p ((lo+hi) / 2+1) hi)else lo
termination_by hi-lo
decreasing_by all_goals omega
theorem Np(p:Nat→Bool)(lo hi:Nat)(h:lo≤hi):lo≤bs p lo hi∧bs p lo hi≤hi:=by
 induction lo,hi using bs.induct p with
 |case1 lo hi hlt hp ih=>rw[bs,dif_pos hlt,if_pos hp];have:=ih (by omega);omega
 |case2 lo hi hlt hp ih=>rw[bs,dif_pos hlt,if_neg hp];have:=ih (by omega);omega
 |case3 lo hi hlt=>rw[bs,dif_neg hlt];omega
theorem Xsw(p:Nat→Bool)(lo hi:Nat)(h:lo≤hi):(lo<bs p lo hi→p (bs p lo hi-1)=false)∧(bs p lo hi<hi→p (bs p lo hi)=true):=by
 induction lo,hi using bs.induct p with
 |case1 lo hi hlt hp ih=>
  rw[bs,dif_pos hlt,if_pos hp];have h1:=ih (by omega);refine⟨h1.1,fun h2=> ?_⟩;by_cases h3:bs p lo ((lo+hi) / 2)<(lo+hi) / 2
  ·exact h1.2 h3
  ·have:=Np p lo ((lo+hi) / 2) (by omega);rw[show bs p lo ((lo+hi) / 2)=(lo+hi) / 2 by omega];exact hp
 |case2 lo hi hlt hp ih=>
  rw[bs,dif_pos hlt,if_neg hp];have h1:=ih (by omega);refine⟨fun h2=> ?_,h1.2⟩;by_cases h3:(lo+hi) / 2+1<bs p ((lo+hi) / 2+1) hi
  ·exact h1.1 h3
  ·have:=Np p ((lo+hi) / 2+1) hi (by omega);rw[show bs p ((lo+hi) / 2+1) hi-1=(lo+hi) / 2 by omega];simpa using hp
 |case3 lo hi hlt=>rw[bs,dif_neg hlt];exact⟨fun h=>by omega,fun h=>by omega⟩
theorem Xpu(h:gz t)(e:aQ)(hi:i<t.length)(hp:t[i].ag=e.ag):iX t e=t.set i e:=by
 have sS:∀(a:aQ),mP a e=mP a t[i]:=fun a=>by unfold mP;rw[hp]
 have UH:∀(a:aQ),mP e a=mP t[i] a:=fun a=>by unfold mP;rw[hp]
 have Eg:=List.pairwise_iff_getElem.1 h;have Gf:gz (t.set i e):=by
  refine List.pairwise_iff_getElem.2 fun a b ha hb hab=> ?_;rw[List.length_set]at ha hb;have h0:=Eg a b ha hb hab;rw[List.getElem_set,List.getElem_set];by_cases h1:i=a
  ·subst h1;rw[if_pos rfl,if_neg (by omega)];show mP e t[b]=true;rw[UH];exact h0
  ·rw[if_neg h1];by_cases h2:i=b
   ·subst h2;rw[if_pos rfl];show mP t[a] e=true;rw[sS];exact h0
   ·rw[if_neg h2];exact h0
 refine gz.ext (Jy h e) Gf fun z=> ?_;rw[Bu h];constructor
 ·rintro(rfl|⟨hz,aZ⟩)
  ·exact List.mem_set hi _
  ·obtain⟨j,hj,rfl⟩:=List.getElem_of_mem hz;have IU:i≠j:=fun e2=>aZ (by subst e2;exact hp);have:(t.set i e)[j]'(by rw[List.length_set];exact hj)=t[j]:=List.getElem_set_ne IU _;rw[←this];exact List.getElem_mem _
 ·intro hz;obtain⟨j,hj,rfl⟩:=List.getElem_of_mem hz;rw[List.length_set]at hj;rw[List.getElem_set];by_cases IU:i=j
  ·rw[if_pos IU];exact .inl rfl
  ·rw[if_neg IU];refine .inr ⟨List.getElem_mem _,fun he=> ?_⟩;have aZ:t[j].ag≠t[i].ag:=by
    rcases Nat.lt_or_gt_of_ne IU with h1|h1
    ·exact(Dc (Eg i j hi hj h1)).symm
    ·exact Dc (Eg j i hj hi h1)
   exact aZ (he.trans hp.symm)
theorem Xpw(h:gz t)(e:aQ)(hi:i≤t.length)(hl:∀k (hk:k<t.length),k<i→mP t[k] e=true)(hg:∀k (hk:k<t.length),i≤k→mP e t[k]=true):iX t e=t.take i++e::t.drop i:=by
 have Eg:=List.pairwise_iff_getElem.1 h;have Gf:gz (t.take i++e::t.drop i):=by
  refine List.pairwise_append.2 ⟨List.Pairwise.sublist (List.take_sublist _ _) h,List.pairwise_cons.2 ⟨fun b hb=> ?_,List.Pairwise.sublist (List.drop_sublist _ _) h⟩,fun a ha b hb=> ?_⟩
  ·obtain⟨j,hj,rfl⟩:=List.getElem_of_mem hb;rw[List.getElem_drop];exact hg _ (by simp at hj;omega) (by omega)
  ·obtain⟨j,hj,rfl⟩:=List.getElem_of_mem ha;have Ef:j<i∧j<t.length:=by simp at hj;omega
   rw[List.getElem_take];rcases List.mem_cons.1 hb with rfl|hb
   ·exact hl j Ef.2 Ef.1
   ·obtain⟨q,hq,rfl⟩:=List.getElem_of_mem hb;rw[List.getElem_drop];exact Eg j (i+q) Ef.2 (by simp at hq;omega) (by omega)
 refine gz.ext (Jy h e) Gf fun z=> ?_;rw[Bu h,List.mem_append,List.mem_cons];constructor
 ·rintro(rfl|⟨hz,aZ⟩)
  ·exact .inr (.inl rfl)
  ·rw[←List.take_append_drop i t,List.mem_append]at hz;rcases hz with hz|hz
   ·exact .inl hz
   ·exact .inr (.inr hz)
 ·rintro(hz|rfl|hz)
  ·obtain⟨j,hj,rfl⟩:=List.getElem_of_mem hz;have Ef:j<i∧j<t.length:=by simp at hj;omega
   rw[List.getElem_take];exact .inr ⟨List.getElem_mem _,Dc (hl j Ef.2 Ef.1)⟩
  ·exact .inl rfl
  ·obtain⟨j,hj,rfl⟩:=List.getElem_of_mem hz;rw[List.getElem_drop];exact .inr ⟨List.getElem_mem _,(Dc (hg (i+j) (by simp at hj;omega) (by omega))).symm⟩
def ek(t:List aQ)(p:af)(i:Nat):Bool:=match t[i]? with|some x=> !(ic (els x.ag) (els p))|none=>true
theorem Xr2(h:gz t)(e:aQ)(hn:∀x∈t,x.ag≠e.ag):iX t e=t.take (bs (ek t e.ag) 0 t.length)++e::t.drop (bs (ek t e.ag) 0 t.length):=by
 have sS:=Np (ek t e.ag) 0 t.length (Nat.zero_le _);have hsp:=Xsw (ek t e.ag) 0 t.length (Nat.zero_le _);generalize bs (ek t e.ag) 0 t.length=i at sS hsp;have Eg:=List.pairwise_iff_getElem.1 h;refine Xpw h e sS.2 (fun k hk hki=> ?_) (fun k hk hik=> ?_)
 ·have h1:=hsp.1 (by omega);rw[ek,List.getElem?_eq_getElem (by omega)]at h1;have h2:mP (t[i-1]'(by omega)) e=true:=by simpa using h1
  by_cases yj:k=i-1
  ·subst yj;exact h2
  ·exact Es (Eg k (i-1) hk (by omega) (by omega)) h2
 ·have h1:=hsp.2 (by omega);rw[ek,List.getElem?_eq_getElem (by omega)]at h1;have h2:mP (t[i]'(by omega)) e=false:=by simpa using h1
  have h3:mP e (t[i]'(by omega))=true:=by
   rcases PY e (t[i]'(by omega))with h3|h3|h3
   ·exact h3
   ·exact absurd h3.symm (hn _ (List.getElem_mem _))
   ·rw[h2]at h3;exact absurd h3 (by simp)
  by_cases yj:k=i
  ·subst yj;exact h3
  ·exact Es h3 (Eg i k (by omega) hk (by omega))
structure Ho where
 p:af
 u:Int
 deriving DecidableEq
variable{l m:List Ho}
def bO(l:List Ho)(d:Int):List Ho:=l.filter fun h=>decide (d≤h.u)
def kg(l:List Ho)(p:af)(d:Int):Bool:=(bO l d).any fun h=>under p h.p
def pg(l:List Ho)(p:af)(d:Int):Bool:=(bO l d).any fun h=>under h.p p
def kG(l:List Ho)(k:Int)(p:af)(d:Int):Int:=
 if k=1∨k=2∨k=3 then(if kg l p d then 15 else 0)else if k=4 then(if kg l p d || pg l p d then 15 else 0)else 0
def jq(l:List Ho)(p:af):List Ho:=l.filter fun h=> !(h.p==p)
def l9(h:Ho):List Ho→List Ho
 | []=> [h]
 |x::l=>if ic (els h.p) (els x.p)then h::x::l else x::l9 h l
def ig(p:af):List Ho→Int→Int
 | [],u=>u
 |h::l,u=>ig p l (if h.p=p then max u h.u else u)
def Bv(l:List Ho)(p:af):Bool:=l.any fun h=>h.p==p
def appH(l:List Ho)(e:aQ)(d:Int):List Ho×Int:=
 if e.aj=5 then(l9 ⟨e.ag,ig e.ag (bO l d) (digits e.av)⟩ (jq (bO l d) e.ag),0)
 else if e.aj=6 then(if Bv (bO l d) e.ag then(jq (bO l d) e.ag,0)else([],9))
 else(bO l d,0)
structure rU (l:List Ho):Prop where
 ne:l.Pairwise fun a b=>a.p≠b.p
 u0:∀h∈l,0≤h.u
 u1:∀h∈l,h.u≤1000000000
 ag:∀h∈l,aR h.p=0
theorem Wd:rU []:=⟨List.Pairwise.nil,fun _ h=>(by cases h),fun _ h=>(by cases h),fun _ h=>(by cases h)⟩
theorem rU.sub(h:rU l)(hs:m.Sublist l):rU m:=⟨h.ne.sublist hs,fun x hx=>h.u0 x (hs.subset hx),fun x hx=>h.u1 x (hs.subset hx),fun x hx=>h.ag x (hs.subset hx)⟩
theorem rU.act(h:rU l)(d:Int):rU (bO l d):=h.sub List.filter_sublist
theorem rU.rest(h:rU l)(p:af):rU (jq l p):=h.sub List.filter_sublist
theorem JA(h:Ho):∀{l:List Ho} {x:Ho},x∈l9 h l↔x=h∨x∈l
 | [],x=>by simp[l9]
 |y::l,x=>by
  rw[l9];split
  ·rw[List.mem_cons]
  ·rw[List.mem_cons,JA h,List.mem_cons];constructor
   ·rintro(k|k|k)
    ·exact .inr (.inl k)
    ·exact .inl k
    ·exact .inr (.inr k)
   ·rintro(k|k|k)
    ·exact .inr (.inl k)
    ·exact .inl k
    ·exact .inr (.inr k)
theorem We(h:Ho):∀l:List Ho,(l9 h l).length=l.length+1
 | []=>rfl
 |y::l=>by
  rw[l9];split
  ·rfl
  ·rw[List.length_cons,We h l,List.length_cons]
theorem Wh{h:Ho}:∀{l:List Ho},l.Pairwise (fun a b=>a.p≠b.p)→(∀x∈l,x.p≠h.p)→(l9 h l).Pairwise fun a b=>a.p≠b.p
 | [],_,_=>List.pairwise_singleton _ _
 |y::l,hl,hn=>by
  rw[l9];obtain⟨h1,h2⟩:=List.pairwise_cons.1 hl;split
  ·exact List.pairwise_cons.2 ⟨fun x hx k=>hn x hx k.symm,hl⟩
  ·refine List.pairwise_cons.2 ⟨fun x hx=> ?_,Wh h2 fun x hx=>hn x (List.mem_cons_of_mem _ hx)⟩;rcases(JA h).1 hx with rfl|hx
   ·exact hn y (List.mem_cons_self ..)
   ·exact h1 x hx
theorem Xpt:∀x∈jq l p,x.p≠p:=fun x hx k=>by
 have:=(List.mem_filter.1 hx).2;rw[k]at this;simp at this
theorem PZ(p:af):∀(l:List Ho) (u:Int),(∀h∈l,0≤h.u∧h.u≤1000000000)→0≤u→u≤1000000000→0≤ig p l u∧ig p l u≤1000000000
 | [],u,_,h0,h1=>⟨h0,h1⟩
 |h::l,u,hl,h0,h1=>by
  have hh:=hl h (List.mem_cons_self ..);have hr:=fun x hx=>hl x (List.mem_cons_of_mem _ hx);rw[ig];split
  ·exact PZ p l _ hr (by omega) (by omega)
  ·exact PZ p l _ hr h0 h1
theorem Wi{s:af}(h:eH s=true):0≤digits s∧digits s≤1000000000:=by
 unfold eH at h;simp only[Bool.and_eq_true,decide_eq_true_eq]at h;refine⟨?_,h.2⟩;have h0:=h.1.2;unfold digits;have key:∀(l:af) (a:Int),0≤a→(l.all fun c=>decide (48≤c)&&decide (c≤57))=true→0≤l.foldl (fun(n:Int) c=>10*n+((c.toNat:Int)-48)) a:=by
  intro l;induction l with
  |nil=>intro a ha _;exact ha
  |cons c l ih=>
   intro a ha hl;rw[List.all_cons,Bool.and_eq_true]at hl;rw[List.foldl_cons];have h48:(48:UInt8)≤c:=by
    have:=hl.1;simp only[Bool.and_eq_true,decide_eq_true_eq]at this;exact this.1
   have ajT:48≤c.toNat:=h48;exact ih _ (by omega) hl.2
 exact key s 0 (by omega) h0
theorem Wj(he:aL e=0)(hk:e.aj=5):eH e.av=true:=by
 unfold aL at he;rw[if_neg (by omega)]at he;by_cases h1:aR e.ag≠0
 ·rw[if_pos h1]at he;exact absurd he h1
 rw[if_neg h1]at he;split at he
 ·omega
 by_cases h2:nK e.au≠0
 ·rw[if_pos h2]at he;exact absurd he h2
 rw[if_neg h2]at he;split at he
 ·omega
 rename_i h3;have ht:bR e=true:=by
  cases hh:bR e with
  |true=>rfl
  |false=>exact absurd (.inr hh) h3
 unfold bR at ht;rw[if_neg (by omega),if_pos hk]at ht;exact ht
theorem Xs1(h:rU l)(he:aL e=0)(ha:appH l e d=(m,n)):rU m:=by
 unfold appH at ha;by_cases h5:e.aj=5
 ·rw[if_pos h5]at ha;obtain⟨rfl,rfl⟩:=Prod.mk.inj ha;have hr:=(h.act d).rest e.ag;have hd:=Wi (Wj he h5);have hu:=PZ e.ag (bO l d) (digits e.av) (fun x hx=>⟨(h.act d).u0 x hx,(h.act d).u1 x hx⟩) hd.1 hd.2;refine⟨Wh hr.ne fun x hx=>Xpt x hx,fun x hx=> ?_,fun x hx=> ?_,fun x hx=> ?_⟩
  ·rcases(JA _).1 hx with rfl|hx
   ·exact hu.1
   ·exact hr.u0 x hx
  ·rcases(JA _).1 hx with rfl|hx
   ·exact hu.2
   ·exact hr.u1 x hx
  ·rcases(JA _).1 hx with rfl|hx
   ·exact(De he).2.2.1
   ·exact hr.ag x hx
 ·rw[if_neg h5]at ha;split at ha
  ·split at ha
   ·obtain⟨rfl,rfl⟩:=Prod.mk.inj ha;exact(h.act d).rest e.ag
   ·obtain⟨rfl,rfl⟩:=Prod.mk.inj ha;exact Wd
  ·obtain⟨rfl,rfl⟩:=Prod.mk.inj ha;exact h.act d
theorem Xqx(ha:appH l e d=(m,n)):m.length≤l.length+1:=by
 have h1:(bO l d).length≤l.length:=List.length_filter_le _ _;have h2:∀p,(jq (bO l d) p).length≤(bO l d).length:=fun p=>List.length_filter_le _ _;have h3:=h2 e.ag;unfold appH at ha;split at ha
 ·obtain⟨rfl,rfl⟩:=Prod.mk.inj ha;rw[We];omega
 ·split at ha
  ·split at ha
   ·obtain⟨rfl,rfl⟩:=Prod.mk.inj ha;omega
   ·obtain⟨rfl,rfl⟩:=Prod.mk.inj ha;simp
  ·obtain⟨rfl,rfl⟩:=Prod.mk.inj ha;omega
def P5(p:af):List Ho→Int→Int
 | [],u=>u
 |h::l,u=>P5 p l (if h.p=p then h.u else u)
theorem ui:((jq l p).length=l.length)↔Bv l p=false:=by
 unfold jq Bv;rw[List.length_filter_eq_length_iff,List.any_eq_false];constructor
 ·intro h x hx;have:=h x hx;simpa using this
 ·intro h x hx;have:=h x hx;simpa using this
