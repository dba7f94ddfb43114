/- Lemmas for the claim's theorem;conditions: as each says. -/
import Derived.Test.YtdodihnehppnmaaGreatDoorG21
import Derived.MapKept
import Derived.Carry
set_option maxHeartbeats 0
set_option maxRecDepth 100000
set_option linter.all false
namespace Go.Proofs.YtdodihnehppnmaaGreatDoor
open Go.RowKit
variable{w:World}{B:Nat}{v:Value}{p:ae}{t:List ay}{x:ay}{I:IH}{bn bt bd:Nat}{n:Int}{α:Type}{T U:List α}{c:Bool}{E:TypeId}{l:List ae}
def si(t:List ay)(p:ae):List ay×Int:=if aU t p=0 then(jP t p,0)else([],aU t p)
def fL(p:ae)(x:ay):Bool:=decide (aF x.af=0)&&decide (x.af≠[])&&(jO x.af==p)
theorem X0n{q:ae}(h:lX x.af=(q,n)):(n=0∧fL p x=(q==p))∨(n≠0∧fL p x=false):=by
 unfold lX at h;unfold fL;by_cases h1:aF x.af≠0
 ·rw[if_pos h1]at h;cases h;exact .inr ⟨h1,by rw[Qf h1];rfl⟩
 ·rw[if_neg h1]at h;by_cases h2:x.af=[]
  ·rw[if_pos h2]at h;cases h;exact .inr ⟨by decide,by rw[h2];simp⟩
  ·rw[if_neg h2]at h;cases h;have EE:aF x.af=0:=by omega
   exact .inl ⟨rfl,by rw[Qt EE,Qt h2];rfl⟩
theorem Xrq(f:ay→Bool){a:List ay}{k:Nat}(hk:k<a.length)(hx:a[k]=x):(a.take (k+1)).filter f=(a.take k).filter f++(if f x then [x]else []):=by
 rw[List.take_succ_eq_append_getElem hk,hx,List.filter_append];cases h:f x<;>simp[h]
theorem Xws{p:α}(h:T=U++(if c=true then [p]else []))(hc:c=true):T=U++[p]:=by rw[h,if_pos hc]
theorem Xtq{p:α}(h:T=U++(if c=true then [p]else []))(hc:c=false):T=U:=by rw[h,hc,if_neg (by simp),List.append_nil]
theorem Xuc(f:ay→Bool)(a:List ay)(k:Nat):((a.take k).filter f).length≤k:=Nat.le_trans (List.length_filter_le _ _) (by simp;omega)
theorem Xzp(I:IH)(hI:dG I)(v:Value)(t:List ay)(hv:bf bC I v t)(fO:pJ t)(hn:t.length≤100000)(p:ae)(w:World)(hw:Ok I w):
 Calls Tryz.prog 90 #[v,S p] w (uT bC I w (si t p).1 (si t p).2):=by
 have CZ:=Qh (fun w hw=>WM I v t hv p w hw);obtain⟨ao,cap,rfl,dD,il,_⟩:=id hv;have Hv:=Qh hv;have Hs:=Qh fO;have jw:=Qh (fun b (hb:w.heap.size≤b)=>hw.fresh (b:=b) hb);clear hv fO;by_cases hd:aU t p=0;case neg=>
  have Hn:=Qh (show si t p=([],aU t p) by rw[si,if_neg hd]);have cK:(aU t p !=0)=true:=by simpa using hd
  generalize aU t p=q at CZ Hn cK;clear hd;go_enter Tryz.func90,Tryz.ntmps90
  go_wp2_with fail
  refine(CZ.O _ hw).mono ?_;rintro e w1 ⟨rfl,au⟩;go_wp2;go_ret2;rw[Hn.O];exact⟨_,I,rfl,au,Ext.refl _ _,hw.below (Qn _) au,bf.nil _ _⟩
 have Hn:=Qh (show si t p=(t.filter (fL p),0) by rw[si,if_pos hd];rfl);rw[hd]at CZ;clear hd;go_enter Tryz.func90,Tryz.ntmps90
 go_wp2_with fail
 refine(CZ.O _ hw).mono ?_;rintro e w1 ⟨rfl,au⟩;have aB:Ok I w1:=hw.below (Qn _) au;have oD:=au.size;go_wp2_with fail
 go_loopw [7,20] (fun s7 s20 wr=> ∃k:Nat,k≤t.length∧s20= .int .i64 k∧aM bC 26 I wr w.heap.size s7 ((t.take k).filter (fL p))∧Below w.heap.size w wr) (fun _ i _=>t.length-(intOf i).toNat)
 case atStart=>exact⟨0,Nat.zero_le _,rfl,aM.nil _ _ _ _ _,au⟩
 case round=>
  clear au aB oD;obtain⟨k,hk,rfl,bJ,hb⟩:=hrel;have bD:=Qh bJ;clear bJ;have dz:Ok I wr:=hw.below (Qn _) hb;have mO:=Xuc (fL p) t k;by_cases hlt:k<t.length
  ·obtain⟨x,va,vx,bb,off,cap',bN,di,⟨c0,c1,c2,c3,c4,c5,c6⟩,h1,h2⟩:=oG Hv.O dz k hlt;cases di;obtain⟨xa,xc,rfl,_,_,_⟩:=id h1;obtain⟨xx,xd,rfl,_,_,_⟩:=id h2;have wT:=Qh (show bC.rd I (dB x (.slice xa x.ai.length xc) (.slice xx x.ak.length xd)) x from⟨_,_,rfl,h1,h2⟩);have bB:=Qh (Xrq (fL p) hlt bN);have Ox:=Qh (Hs.O x (by rw[←bN];exact List.getElem_mem hlt));obtain⟨q,n,C9⟩:∃q n,lX x.af=(q,n):=⟨_,_,rfl⟩;have ll:=Qh (fun w hw=>VV I hI x.af Ox.O.1 w hw);rw[C9]at ll;have wF:=Qh (X0n (p:=p) C9);clear bN h1 h2 C9;go_wp2_with fail
   refine(ll.O _ (dz.alloc _)).mono ?_;rintro e1 w2 ⟨rfl,aD⟩;have HX:=Qh (bS (e:=x) rfl aD);have aK:=(hb.alloc hb.size (.cells #[.int .i64 x.ag,S x.af,.slice xa x.ai.length xc,S x.target,.int .i64 x.size,S x.aj,.slice xx x.ak.length xd] 26)).trans (aD.mono (by have:=hb.size;simp;omega));have lh:=Qh ((bD.O.alloc (.cells #[.int .i64 x.ag,S x.af,.slice xa x.ai.length xc,S x.target,.int .i64 x.size,S x.aj,.slice xx x.ak.length xd] 26)).below aD);have oV:=aK.size;clear aD c0 c1 c2 c3 c4 c5 c6 bD;obtain⟨x0,x1,x2,x3,x4,x5,x6⟩:=HX.O;have MI:=wF.O;rcases MI with⟨rfl,hd⟩|⟨RL,hd⟩
   ·cases hqp:(q==p)
    ·have iQ:=Qh (Xtq bB.O (hd.trans hqp));clear hd;go_wp2;go_roundw;case rel=>exact⟨k+1,by omega,by go_num,(by rw[iQ.O];exact lh.O),aK⟩
     case measure=>simp[intOf];omega
    ·have iQ:=Qh (Xws bB.O (hd.trans hqp));clear hd;go_wp2_with (at_builtin;refine oq (w0:=w2) vP rfl _ _ rfl _ _ _ rfl lh.O x (dB x (.slice xa x.ai.length xc) (.slice xx x.ak.length xd)) _ rfl wT.O (by omega) (by omega) oV ?_)
     intro v9 w9 dF fw;have iq:=Below.own aK fw lh.O (Qn _) oV;go_wp2;go_roundw;case rel=>exact⟨k+1,by omega,by go_num,(by rw[iQ.O];exact dF),iq⟩
     case measure=>simp[intOf];omega
   ·have Ao:((n:Int)==0)=false:=by simpa using RL
    have iQ:=Qh (Xtq bB.O hd);clear hd RL;go_wp2;go_roundw;case rel=>exact⟨k+1,by omega,by go_num,(by rw[iQ.O];exact lh.O),aK⟩
    case measure=>simp[intOf];omega
  ·have aG:t.take k=t:=List.take_of_length_le (by omega);rw[aG]at bD;clear aG mO;go_wp2;go_ret2;rw[Hn.O];obtain⟨I',jo,jA,kG,_⟩:=bD.O.freeze dz jw.O;exact⟨_,I',rfl,hb,jo,jA,kG⟩
structure UD (t:List ay):Prop where
 FH:pJ t
 len:t.length≤100000
 ok:∀y∈t,xW y
 dir:∀y∈t,y.ag=2→aU t y.af=0
theorem X0q(h:xR t)(hl:t.length≤100000):UD t:=by
 have gK:∀y∈t,xW y:=fun y hy=>Xzr (h.mr y hy) (h.ag y hy);refine⟨fun y hy=> ?_,hl,gK,fun y hy hk=> ?_⟩
 ·have h1:=(gK y hy).af;have h2:=(gK y hy).target;exact⟨by omega,by omega⟩
 ·unfold aU;rw[FU h.vI hy];split
  ·rfl
  ·show(if y.ag≠2 then(10:Int)else 0)=0;rw[if_neg (by omega)]
theorem Xpl(s:ae):(bE s).length≤32:=by
 unfold bE;rw[List.length_map];exact V8 _ 8
theorem Xwb(n:Int)(h0:0≤n)(h1:n≤140737488355200)(w:World):
 Calls Tryz.prog 47 #[.int .i64 n] w fun e w'=>e= .returned (S (bq n))∧Below w.heap.size w w':=by
 obtain⟨m,rfl⟩:=Int.eq_ofNat_of_zero_le h0;exact Nn m (by omega) w
theorem Xok(I:IH)(hI:dG I)(n:Int)(h0:0≤n)(h1:n≤140737488355200)(w:World)(hw:Ok I w):
 Calls Tryz.prog 41 #[.int .i64 n] w fun e w'=>e= .returned (S (bq n))∧Below w.heap.size w w':=by
 obtain⟨m,rfl⟩:=Int.eq_ofNat_of_zero_le h0;exact IM I hI m (by omega) w hw
theorem Xta(h0:0≤n)(h1:n≤140737488355200):(bq n).length≤17:=by
 obtain⟨m,rfl⟩:=Int.eq_ofNat_of_zero_le h0;exact y9 m (by omega)
structure apF (n:Nat) (t:List ay) (x:ay) (L:List ay) (D:List ay→ae):Prop where
 zero:D []=lZ x++bq L.length
 snoc:∀l y,D (l++[y])=D l++(aN (iE y.af)++aN (iv bE n t y))
 fin:iv bE (n+1) t x=bE (D L)
 len:∀l,(∀y∈l,y∈t)→(D l).length≤2400+300*l.length
theorem Xwn(h:aU t p=0):si t p=(jP t p,0):=by rw[si,if_pos h]
theorem Xti{y:ay}(h:y∈jP t p):y∈t∧y.af≠[]:=⟨(qZ.1 h).1,(qZ.1 h).2.2.1⟩
def ol:MapEntry:={key:= .int .i64 1,val:=S [102,105,108,101],born:=0}
def uD:MapEntry:={key:= .int .i64 2,val:=S [100,105,114],born:=1}
def Ez:MapEntry:={key:= .int .i64 3,val:=S [108,105,110,107],born:=2}
def jX:Array MapEntry:=#[ol,uD,Ez]
theorem Xmr(w:World)(B c:Nat)(hB:w.heap[B]?=some (.map jX c))(k:Int)(hk:k=1∨k=2∨k=3):
 (Instr.lookup 128 (.map (some B)) (.int .i64 k) false).run Tryz.prog w= .ok (S (bH k)) w:=by
 have hg:=Go.MapKept.run_getObj_map (P:=Tryz.prog) hB;have hc:(Instr.checkKey jX.isEmpty 10000 3 (.int .i64 k)).run Tryz.prog w= .ok () w:=Go.MapKept.run_checkKey Tryz.underlying3 (show Go.MapKept.IsKey (.int .i64) (.int .i64 k)from rfl) _ _;unfold Instr.lookup;simp only[Sem.run_bind,run_underlying Tryz.underlying128,Result.andThen_ok,hg,Sem.run_pure,hc];rcases hk with rfl|rfl|rfl
 all_goals simp[Instr.findKey,run_underlying Tryz.underlying3,Instr.findNow,Instr.sameNow,jX,ol,uD,Ez,bH]
theorem Zz(W:World)(es:Array MapEntry)(c:Nat)(k:Int)(v:Value)(hn:Instr.findNow (.int .i64) (.int .i64 k) es.toList 0=some none):
 (Instr.mapUpdate 128 (.map (some W.heap.size)) (.int .i64 k) v).run Tryz.prog (W.alloc (.map es c))= .ok () (W.alloc (.map (es.push {key:= .int .i64 k,val:=v,born:=c}) (c+1))):=by
 have hB:(W.alloc (.map es c)).heap[W.heap.size]?=some (.map es c):=by show(W.heap.push _)[W.heap.size]?=_;simp
 have hg:=Go.MapKept.run_getObj_map (P:=Tryz.prog) hB;have hc:(Instr.checkKey false 10000 3 (.int .i64 k)).run Tryz.prog (W.alloc (.map es c))= .ok () (W.alloc (.map es c)):=Go.MapKept.run_checkKey Tryz.underlying3 (show Go.MapKept.IsKey (.int .i64) (.int .i64 k)from rfl) _ _;have hs:=Go.MapKept.run_setObj_map (P:=Tryz.prog) (.map (es.push {key:= .int .i64 k,val:=v,born:=c}) (c+1)) hB;unfold Instr.mapUpdate;simp only[Sem.run_bind,run_underlying Tryz.underlying128,Result.andThen_ok,hg,hc,Instr.findKey,run_underlying Tryz.underlying3,hn,Sem.run_pure,hs];have hp:∀(A:Array Obj) (o o':Obj),(A.push o).setIfInBounds A.size o'=A.push o':=by
  intro A o o';apply Array.ext_getElem?;intro i;rw[Array.getElem?_setIfInBounds,Array.getElem?_push,Array.getElem?_push];split
  ·rename_i h;subst h;simp
  ·rename_i h;rw[if_neg (fun e=>h e.symm),if_neg (fun e=>h e.symm)]
 show Result.ok () {W with heap:=(W.heap.push _).setIfInBounds W.heap.size _}=Result.ok () {W with heap:=W.heap.push _};rw[hp]
theorem Xqn(w:World):Calls Tryz.prog 87 #[] w fun e w'=>e= .returned (.map (some w.heap.size))∧w'=w.alloc (.map jX 3):=by
 have h1:=Zz w #[] 0 1 (S [102,105,108,101]) rfl;have h2:=Zz w #[ol] 1 2 (S [100,105,114]) rfl;have h3:=Zz w #[ol,uD] 2 3 (S [108,105,110,107]) rfl;have e1:(#[]:Array MapEntry).push {key:= .int .i64 1,val:=S [102,105,108,101],born:=0}=#[ol]:=rfl;have e2:(#[ol]:Array MapEntry).push {key:= .int .i64 2,val:=S [100,105,114],born:=1}=#[ol,uD]:=rfl;have e3:(#[ol,uD]:Array MapEntry).push {key:= .int .i64 3,val:=S [108,105,110,107],born:=2}=jX:=rfl;rw[e1]at h1;rw[e2]at h2;rw[e3]at h3;clear e1 e2 e3;have hm:=fun w=>run_makeMap (P:=Tryz.prog) 128 w;go_enter Tryz.func87,Tryz.ntmps87
 go_wp2;go_ret;exact⟨rfl,rfl⟩
def Tryz.yQ:Go.Shelf.Ren:=⟨fun|148=>91|222=>137|223=>138|269=>201|n=>n,fun|3=>3|4=>4|5=>5|9=>9|46=>116|51=>110|146=>214|n=>n,fun|n=>n⟩
theorem Tryz.G7:Go.Proofs.Lays.n148 Tryz.prog Tryz.yQ:={
 mixed:=by kernel_rfl
 f148:=Tryz.func91.trans (congrArg some (by kernel_rfl))
 f222:=Tryz.func137.trans (congrArg some (by kernel_rfl))
 f223:=Tryz.func138.trans (congrArg some (by kernel_rfl))
 f269:=Tryz.func201.trans (congrArg some (by kernel_rfl))
 t3:=Tryz.underlying3
 a3:=Tryz.isAgg3
 z3:=Tryz.sizeOf3
 v3:=Tryz.zeroValue3
 t4:=Tryz.underlying4
 a4:=Tryz.isAgg4
 z4:=Tryz.sizeOf4
 v4:=Tryz.zeroValue4
 t5:=Tryz.underlying5
 a5:=Tryz.isAgg5
 z5:=Tryz.sizeOf5
 v5:=Tryz.zeroValue5
 t9:=Tryz.underlying9
 a9:=Tryz.isAgg9
 z9:=Tryz.sizeOf9
 v9:=Tryz.zeroValue9
 t46:=Tryz.underlying116
 a46:=Tryz.isAgg116
 z46:=Tryz.sizeOf116
 v46:=Tryz.zeroValue116
 t51:=Tryz.underlying110
 a51:=Tryz.isAgg110
 z51:=Tryz.sizeOf110
 v51:=Tryz.zeroValue110
 t146:=Tryz.underlying214
 a146:=Tryz.isAgg214
 z146:=Tryz.sizeOf214
 v146:=Tryz.zeroValue214}
open Go.RowKit in
theorem Tryz.strings_LastIndex_one(s sub:ByteArray)(h1:sub.size=1)(hs:s.size<4611686018427387904)(w:World):
 Calls Tryz.prog 91 #[.string s,.string sub] w fun e w'=>e= .returned (.int .i64 (Lib.lastIndexByte s ((sub[0]'(by omega)).toNat:Int)))∧w'=w:=
 Any.strings_LastIndex_one Tryz.G7 s sub h1 hs w
theorem Xk1(s:ae)(hs:s.length<4611686018427387904)(w:World):
 Calls Tryz.prog 91 #[S s,S [47]] w fun e w'=>e= .returned (.int .i64 (kM s))∧w'=w:=
 Tryz.strings_LastIndex_one ⟨s.toArray⟩ ⟨[47].toArray⟩ rfl (by simpa[ByteArray.size]using hs) w
theorem Xle(I:IH)(hI:dG I)(v:Value)(l:List At)(hv:bf kT I v l)(hn:l.length≤16)(ha:∀a∈l,a.k.length≤32∧a.v.length≤64)(w:World)(hw:Ok I w):
 Calls Tryz.prog 89 #[v] w fun e w'=>e= .returned (S (q8 l))∧Below w.heap.size w w':=by
 obtain⟨ao,cap,rfl,dD,il,_⟩:=id hv;have Hv:=Qh hv;have Ha:=Qh ha;have Hl:=Qh (TE hn ha);have hz:bq l.length=kQ l 0:=by rw[kQ,List.take_zero,List.flatMap_nil,List.append_nil]
 have pR:=TE hn ha 0;have jw:=Qh (show Lib.IsBuilder 77 5 w.heap.size w.heap.size (Lib.byteCells []) (w.alloc (.cells #[.pointer none,.slice none 0 0] 77))from Lib.fresh_isBuilder _ _ w);have CV:=Qh (fun w hw=>IM I hI l.length (by omega) w hw);rw[hz]at CV;clear hv ha hz;go_enter Tryz.func89,Tryz.ntmps89
 go_wp2_with fail
 refine(CV.O _ (hw.alloc _)).mono ?_;rintro e w1 ⟨rfl,au⟩;have nI:=IK jw.O au;have cO:w.heap.size<w1.heap.size:=by have:=au.size;simp at this;omega
 have av:Below w.heap.size w w1:=((Qb _ _).alloc (Qn _) _).trans (au.mono (by simp));clear au jw;go_wp2_with fail
 refine(Tryz.Builder_WriteString w.heap.size w.heap.size _ _ _ nI (by rw[ByteArray.size_mk',List.size_toArray];simp[Lib.byteCells];omega) (by omega)).mono ?_;rintro e w2 ⟨rfl,mU,aD⟩;have fe:=mU.lt;have u7:Hid (Lib.IsBuilder 77 5 w.heap.size w.heap.size (Lib.byteCells (kQ l 0)) w2):=Qh (.inr (by
  have:=mU;rw[Lib.strCells_toArray,Lib.byteCells,List.map_nil,List.nil_append]at this;exact this))
 have JO:=Qh (av.trans aD);clear nI mU av aD;go_wp2_with fail
 go_loopw [12] (fun s12 wr=> ∃k:Nat,k≤l.length∧s12= .int .i64 k∧Lib.IsBuilder 77 5 w.heap.size w.heap.size (Lib.byteCells (kQ l k)) wr∧Below w.heap.size w wr∧w.heap.size<wr.heap.size) (fun i _=>l.length-(intOf i).toNat)
 case atStart=>exact⟨0,Nat.zero_le _,rfl,u7.O,JO.O,fe⟩
 case round=>
  clear u7 JO cO fe;obtain⟨k,hk,rfl,tJ,hb,eU⟩:=hrel;have wN:=Qh tJ;clear tJ;have dz:Ok I wr:=hw.below (Qn _) hb;have oW:=Hl.O k;by_cases hlt:k<l.length
  ·obtain⟨x,b,off,cap',bN,di,c0,c1⟩:=uU Hv.O dz k hlt;cases di;have Ms:=Ha.O x (by rw[←bN];exact List.getElem_mem hlt);have bB:=Qh (Xd hlt bN);have pg:=mQ x.k (by omega);have sP:=mQ x.v (by omega);have Ay:eX [x.k,x.v]=aN x.k++aN x.v:=by simp[eX]
   have Hs:=Qh (fun w hv hw=>Ph I hI (wr.heap.size+1) 0 2 2 [x.k,x.v] rfl (by simp) (by unfold maxLen;omega) w hv (by rw[Ay];simp;omega) hw);have HS:=Qh (show nN ((wr.alloc (.cells #[S x.k,S x.v] 94)).alloc (.cells #[S x.k,S x.v] 9)) (wr.heap.size+1) 0 [x.k,x.v] by
    have:=Nl (wr.alloc (.cells #[S x.k,S x.v] 94)) [x.k,x.v] 9;rwa[show(wr.alloc (.cells #[S x.k,S x.v] 94)).heap.size=wr.heap.size+1 by simp]at this)
   rw[Ay]at Hs;clear bN Ay;generalize aN x.k=p at bB pg Hs;generalize aN x.v=q at bB sP Hs;generalize kQ l k=u at bB oW wN;go_wp2_with fail
   refine(Hs.O _ HS.O ((dz.alloc _).alloc _)).mono ?_;rintro e w1 ⟨rfl,au⟩;have uq:Below wr.heap.size wr w1:=(((Qb _ _).alloc (Qn _) _).alloc (by simp) _).trans (au.mono (by simp;omega));have nI:=IK wN.O uq;have cO:=uq.size;have av:=hb.trans (uq.mono hb.size);clear au uq wN c0 c1 HS Hs;go_wp2_with fail
   refine(Tryz.Builder_WriteString w.heap.size w.heap.size _ _ _ nI (by rw[ByteArray.size_mk',List.size_toArray];simp[Lib.byteCells];omega) (by omega)).mono ?_;rintro e w2 ⟨rfl,mU,aD⟩;have fe:=mU.lt;have u7:=Qh (show Lib.IsBuilder 77 5 w.heap.size w.heap.size (Lib.byteCells (kQ l (k+1))) w2 from .inr (by
    have:=mU;rw[Lib.strCells_toArray,Lib.byteCells,Lib.byteCells,←List.map_append,←bB.O]at this;exact this))
   clear nI mU;go_wp2;go_roundw;case rel=>exact⟨k+1,by omega,by go_num,u7.O,av.trans aD,by omega⟩
   case measure=>simp[intOf];omega
  ·have Hn:=Qh (Xe l (k:=k) (by omega));rw[Hn.O]at wN;go_wp2_with fail
   refine(Tryz.Builder_String_any w.heap.size w.heap.size _ _ wN.O (Nat.le_of_lt eU)).mono ?_;rintro e w1 ⟨rfl,au⟩;go_wp2;go_ret;exact⟨rfl,hb.trans au⟩
theorem aM.Jv{T:Ty α}{l l':List α}(h:aM T E I w B v l)(e:l=l'):aM T E I w B v l':=e▸h
theorem Xqt(b off cap n:Nat)(l:List ae)(hn:l.length=n)(s:ae)(hl:l.flatten=s)(hs:s.length≤140737488355328)(w:World)(hc:nN w b off l)(dD:n≤cap)(rO:b<w.heap.size)(UI:n≤1000000):
 Calls Tryz.prog 30 #[.slice (some ⟨b,off,none⟩) n cap] w fun e w'=>e= .returned (S (bE s))∧Below w.heap.size w w':=by
 subst hn;exact Xqu b off cap l s hl hs w hc dD rO UI
theorem Xop{xs:List Value}(h:bR gq I xs l)(j:Nat)(x:ae)(hx:l[j]?=some x):xs[j]?=some (S x):=by
 obtain⟨hj,rfl⟩:=List.getElem?_eq_some_iff.1 hx;obtain⟨cs,k1,k2⟩:=h.2 j hj;have k1:cs=[S l[j]]:=k1;subst k1;have k:=k2 0 (S l[j]) rfl;have e:j*gq.size+0=j:=Nat.mul_one j;rwa[e]at k
theorem Xrg(h:aM gq E I w B v l)(hl:l≠[]):∃g cap,v= .slice (some ⟨g,0,none⟩) l.length cap∧l.length≤cap∧g<w.heap.size∧nN w g 0 l:=by
 obtain⟨xs,⟨h1,h2⟩,h3⟩:=h;rcases h2 with⟨rfl,h0⟩|⟨g,cap,cur,rfl,hB,hg,hc,hm,hs,ht⟩
 ·exact absurd (List.eq_nil_of_length_eq_zero h0) hl
 ·refine⟨g,cap,rfl,hc,(Qg hg),fun j x hx=> ?_⟩;have hk:=Xop h3 j x hx;rw[cell_of_row w g _ _ _ _ hg,Nat.zero_add];rw[←ht]at hk;obtain⟨hj,he⟩:=List.getElem?_eq_some_iff.1 hk;rw[←Array.getElem?_toList,←hk];rw[List.getElem?_take_of_lt (by rw[List.length_take]at hj;omega)]
theorem Xyo(W:World)(a b:ae)(n:Nat)(hn:n=W.heap.size):aM gq 9 I (W.alloc (.cells #[S a,S b] 9)) n (.slice (some ⟨n,0,none⟩) 2 2) [a,b]:=by
 subst hn;refine⟨[S a,S b],⟨rfl,.inr ⟨W.heap.size,2,#[S a,S b],rfl,Qn _,heap_alloc_new W _,Qn _,by unfold maxLen;omega,rfl,rfl⟩⟩,rfl,fun i hi=> ?_⟩;match i,hi with
 |0,_=>exact⟨[S a],rfl,fun j u hj=>by
   have Sd:j=0:=by have:=(List.getElem?_eq_some_iff.1 hj).1;simp at this;omega
   subst Sd;exact hj⟩
 |1,_=>exact⟨[S b],rfl,fun j u hj=>by
   have Sd:j=0:=by have:=(List.getElem?_eq_some_iff.1 hj).1;simp at this;omega
   subst Sd;exact hj⟩
structure sN (w:World) (bn bt bd B:Nat) (v:Value):Prop where
 names:w.cell? ⟨bn,0,none⟩=some (.map (some B))
 es:w.heap[B]?=some (.map jX 3)
 aJ:w.cell? ⟨bt,0,none⟩=some v
 self:w.cell? ⟨bd,0,none⟩=some (.func (.func 88) #[] #[.pointer (some ⟨bn,0,none⟩),.pointer (some ⟨bt,0,none⟩),.pointer (some ⟨bd,0,none⟩)])
theorem sN.aA{w':World}(h:sN w bn bt bd B v)(hb:Below w.heap.size w w'):sN w' bn bt bd B v:=
 ⟨dQ hb h.names,(hb.block _ (Qg h.es)).trans h.es,dQ hb h.aJ,dQ hb h.self⟩
theorem sN.past(h:sN w bn bt bd B v)(o:Obj):sN (w.alloc o) bn bt bd B v:=h.aA ((Qb _ _).alloc (Qn _) o)
theorem sN.lts(h:sN w bn bt bd B v):bn<w.heap.size∧B<w.heap.size∧bt<w.heap.size∧bd<w.heap.size:=
 ⟨block_lt_of_cell h.names,(Qg h.es),block_lt_of_cell h.aJ,block_lt_of_cell h.self⟩
theorem sN.look(h:sN w bn bt bd B v){k:Int}(hk:k=1∨k=2∨k=3)(d:Nat)(os:Array Obj):
 (Instr.lookup 128 (.map (some B)) (.int .i64 k) false).run Tryz.prog (Go.Sort.grow (redrawn w d) os)= .ok (S (bH k)) (Go.Sort.grow (redrawn w d) os):=
 Xmr _ B 3 (((below_regrown w d os).block B h.lts.2.1).trans h.es) k hk
structure ZA (n:Nat) (t:List ay) (x:ay) (L:List ay) (P:List ay→List ae):Prop where
 zero:P []=[lZ x,bq L.length]
 snoc:∀l y,P (l++[y])=P l++[aN (iE y.af)++aN (iv bE n t y)]
 fin:iv bE (n+1) t x=bE (P L).flatten
 len:∀l,(∀y∈l,y∈t)→(P l).flatten.length≤2400+300*l.length
 num:∀l,(P l).length=l.length+2
theorem Xzq{n:Nat}(hT:UD t)(hx:xW x)(hk:x.ag=2):∃P,ZA n t x (jP t x.af) P:=by
 have mO:∀l:List ay,(lZ x::bq (jP t x.af).length::l.map fun y=>aN (iE y.af)++aN (iv bE n t y)).flatten=p9 bE n t x l:=fun l=>by
  simp[p9,List.flatMap_def]
 refine⟨fun l=>lZ x::bq (jP t x.af).length::l.map fun y=>aN (iE y.af)++aN (iv bE n t y),rfl,fun l y=>by simp,?_,fun l hl=> ?_,fun l=>by simp⟩
 ·rw[mO];exact Xwj bE n t hk
 ·rw[mO];exact Xpa bE Xpl hx hT.len (fun y hy=>(hT.ok y hy).af) l hl
theorem Xsi(s:ae):∃(j:Int) (m:Nat),kM s=j∧j+1=(m:Int)∧m≤s.length∧s.drop m=iE s:=by
 obtain⟨h1,h2,h3⟩:=Xlz s;exact⟨kM s,(kM s+1).toNat,rfl,by omega,by omega,h3⟩
theorem Xuv(t:List ay)(hT:UD t):∀(n:Nat) (I:IH) (_hI:dG I) (v:Value) (_hv:bf bC I v t) (x:ay) (va vx:Value) (apS:bf kT I va x.ai) (apT:bf mE I vx x.ak) (_hx:xW x) (_hd:Deep n x) (apU:x.ag=2→aU t x.af=0) (w:World) (_hw:Ok I w) (bn bt bd B:Nat) (_hc:sN w bn bt bd B v),
 Calls Tryz.prog 88 #[eT x va vx,.pointer (some ⟨bn,0,none⟩),.pointer (some ⟨bt,0,none⟩),.pointer (some ⟨bd,0,none⟩)] w fun e w'=>e= .returned (S (iv bE n t x))∧Below w.heap.size w w':=by
 intro n;induction n with
 |zero=>
  intro I hI v hv x va vx dV dX hx hd;have:=hx.deep;unfold Deep at hd;omega
 |succ n ih=>
  intro I hI v hv x va vx dV dX hx hd Ov w hw bn bt bd B hc;have Hih:=Qh ih;clear ih;obtain⟨ao,cap,rfl,dD,il,_⟩:=id hv;obtain⟨xa,xc,rfl,_,_,_⟩:=id dV;obtain⟨xx,xd,rfl,_,_,_⟩:=id dX;have Hv:=Qh hv;have Hx:=Qh hx;have Hd:=Qh hd;have F8:=Qh Ov;have HI:=Qh hI;have HT:=Qh hT;have Hc:=Qh hc;have qV:=MZ x.ag;have pg:=mQ (bH x.ag) (by omega);have sP:=Vx hx.uW hx.Iy;have Hs:=Qh (fun w hw=>IL I hI (bH x.ag) (by omega) w hw);have Ha:=Qh (fun w hw=>Xle I hI _ x.ai dV hx.uW hx.Iy w hw);have HF:=Qh (Xm6 x);have hF:=Xj9 hx;have U5:=hc.past (.cells #[.int .i64 x.ag,S x.af,.slice xa x.ai.length xc,S x.target,.int .i64 x.size,S x.aj,.slice xx x.ak.length xd] 26);have Rs:=Qh U5;have zu:=U5.look hx.ag;have lH:=Qh (bS (n:=w.heap.size) (e:=x) (va:= .slice xa x.ai.length xc) (vx:= .slice xx x.ak.length xd) (t:=26) rfl (Qb _ _));have Ai:=hw.alloc (.cells #[.int .i64 x.ag,S x.af,.slice xa x.ai.length xc,S x.target,.int .i64 x.size,S x.aj,.slice xx x.ak.length xd] 26);have wU:=(Qb w.heap.size w).alloc (Qn _) (.cells #[.int .i64 x.ag,S x.af,.slice xa x.ai.length xc,S x.target,.int .i64 x.size,S x.aj,.slice xx x.ak.length xd] 26);have g1:=cell_regrown U5.names;clear hv dV dX hx hd Ov hI hT hc U5;obtain⟨c0,c1,c2,c3,c4,c5,c6⟩:=lH.O;have e0:=cell_regrown c0;have e2:=cell_regrown c2;generalize bH x.ag=m at zu Hs qV pg HF;generalize aN m=p at Hs pg HF;generalize q8 x.ai=q at Ha sP HF;go_enter Tryz.func88,Tryz.ntmps88
  go_wp2_with fail
  refine wp_region_quiet_below (by kernel_rfl) (by kernel_rfl) ?_;repeat(go_big_quiet_step ((with_reducible first|exact Calls.regrown_of (Hs.O _ (Ai.below (Qn _) (below_regrown _ _ _)))|exact Calls.regrown_of (Ha.O _ (Ai.below (Qn _) (below_regrown _ _ _))))))
  refine wpQuiet_nil ?_;intro w1 bg;have au:Below ((w.alloc (.cells #[.int .i64 x.ag,S x.af,.slice xa x.ai.length xc,S x.target,.int .i64 x.size,S x.aj,.slice xx x.ak.length xd] 26))).heap.size ((w.alloc (.cells #[.int .i64 x.ag,S x.af,.slice xa x.ai.length xc,S x.target,.int .i64 x.size,S x.aj,.slice xx x.ak.length xd] 26))) w1:=by
   obtain⟨pq,rfl⟩:=bg;exact below_regrown _ _ _
  clear bg;rw[show p++q=lZ x from HF.O.symm];have aB:Ok I w1:=Ai.below (Qn _) au;have gT:=Qh (lH.O.aA au);have Jf:=Qh (Rs.O.aA au);have av:=wU.trans (au.mono (by simp));clear au wU Ai lH Rs Hc c0 c1 c2 c3 c4 c5 c6 e0 e2 g1 zu HF Hs Ha qV pg sP;obtain⟨F,ZB⟩:∃F,lZ x=F:=⟨_,rfl⟩;have HFe:=Qh ZB;rw[ZB]at hF ⊢;clear ZB;obtain⟨c0,c1,c2,c3,c4,c5,c6⟩:=gT.O;by_cases hk:x.ag=2;case neg=>
   have k1:((x.ag:Int) !=2)=true:=by simpa using hk
   have Hm:=Qh (Xtd bE n t hk);rw[HFe.O]at Hm;have ht:=mQ x.target (by have:=Hx.O.target;omega);have JC:=mQ x.aj (by have:=Hx.O.aj;omega);have ht':=Hx.O.target;have apW:=Hx.O.aj;have hz:=Xta Hx.O.s0 (by have:=Hx.O.s1;omega);have H1:=Qh (fun w hw=>IL I HI.O x.target (by omega) w hw);have H2:=Qh (fun w hw=>Xok I HI.O x.size Hx.O.s0 (by have:=Hx.O.s1;omega) w hw);have H3:=Qh (fun w hw=>IL I HI.O x.aj (by omega) w hw);have e3:=cell_regrown c3;have e4:=cell_regrown c4;have e5:=cell_regrown c5;generalize aN x.target=p at Hm ht H1;generalize bq x.size=q at Hm hz H2;generalize aN x.aj=r at Hm JC H3;clear hk;go_wp2_with fail
   refine xQ 10 (by kernel_rfl) (by kernel_rfl) ?_;simp only[List.take_succ_cons,List.take_zero,List.drop_succ_cons,List.drop_zero];repeat(go_big_quiet_step ((with_reducible first|exact Calls.regrown_of (H1.O _ (aB.below (Qn _) (below_regrown _ _ _)))|exact Calls.regrown_of (H2.O _ (aB.below (Qn _) (below_regrown _ _ _)))|exact Calls.regrown_of (H3.O _ (aB.below (Qn _) (below_regrown _ _ _))))))
   refine wpQuiet_nil ?_;intro w2 bg;have aD:Below (w1).heap.size (w1) w2:=by
    obtain⟨pq,rfl⟩:=bg;exact below_regrown _ _ _
   clear bg;have aK:=av.trans (aD.mono av.size);have HS:=Qh (Nl w2 [F,p,q,r] 9);clear e3 e4 e5 aD c0 c1 c2 c3 c4 c5 c6;go_wp2_with fail
   refine(Xqt _ 0 4 4 [F,p,q,r] rfl (F++p++q++r) (by simp) (by simp;omega) _ HS.O (by omega) (by simp) (by omega)).mono ?_;rintro e w3 ⟨rfl,bU⟩;go_wp2;go_ret;exact⟨FR (by rw[Hm.O];simp),(aK.alloc aK.size _).trans (bU.mono (by have:=aK.size;simp;omega))⟩
  have k1:((x.ag:Int) !=2)=false:=by simpa using hk
  obtain⟨P,hP⟩:=Xzq (n:=n) HT.O Hx.O hk;have HP:=Qh hP;have ZC:=hP.zero;rw[HFe.O]at ZC;have HP0:=Qh ZC;have UE:=Qh (fun w hw=>Xzp I HI.O _ t Hv.O HT.O.FH HT.O.len x.af w hw);rw[Xwn (F8.O hk)]at UE;have LM:=Qh (fun y (hy:y∈jP t x.af)=>And.intro (Xti hy) (Xth Hd.O hy));have hLl:(jP t x.af).length≤100000:=Nat.le_trans (List.length_filter_le _ _) HT.O.len;generalize jP t x.af=L at UE HP HP0 LM hLl;have g2:=Jf.O.aJ;clear hk hP ZC;go_wp2_with fail
  refine(UE.O _ aB).mono ?_;rintro e2 w2 ⟨v2,I2,rfl,aD,eZ,aP,fQ⟩;obtain⟨uV,cap2,rfl,qK,rJ,_⟩:=id fQ;have uN:=Qh fQ;have UF:=Qh (eZ.keep aB (Qn _));have aK:=av.trans (aD.mono av.size);have Fv:=Qh (Jf.O.aA aD);have oV:=aK.size;have CV:=Qh (fun w hw=>IM I2 (HI.O.mono UF.O) L.length (by omega) w hw);have uL:=y9 L.length (by omega);have jw:=Qh (fun b (hb:w2.heap.size≤b)=>aP.fresh (b:=b) hb);clear aD av fQ eZ c0 c1 c2 c3 c4 c5 c6 g2 UE;go_wp2_with fail
  refine(CV.O _ aP).mono ?_;rintro e3 w3 ⟨rfl,bU⟩;have bB:=Qh (((Xyo (I:=I2) w3 F (bq L.length) _ rfl).lower bU.size).Jv HP0.O.symm);have ny:=Qh (bU.alloc bU.size (.cells #[S F,S (bq L.length)] 9));generalize bq L.length=q at uL bB ny ⊢;clear bU;go_wp2_with fail
  go_loopw [9,51] (fun s9 TB wr=> ∃k:Nat,k≤L.length∧TB= .int .i64 k∧aM gq 9 I2 wr w2.heap.size s9 (P (L.take k))∧Below w2.heap.size w2 wr) (fun _ i _=>L.length-(intOf i).toNat)
  case atStart=>exact⟨0,Nat.zero_le _,rfl,bB.O,ny.O⟩
  case round=>
   clear ny bB;obtain⟨k,hk,rfl,bJ,hb⟩:=hrel;have bD:=Qh bJ;clear bJ;have dz:Ok I2 wr:=aP.below (Qn _) hb;have Jm:=Qh (Fv.O.aA hb);have Gj:=HP.O.len (L.take k) fun y hy=>(LM.O y (List.mem_of_mem_take hy)).1.1;have LP:=HP.O.num (L.take k);have apY:(L.take k).length≤L.length:=by simp;omega
   by_cases hlt:k<L.length
   ·obtain⟨y,va,vx,bb,off,cap',iB,di,⟨d0,d1,d2,d3,d4,d5,d6⟩,h1,h2⟩:=oG uN.O dz k hlt;cases di;have Oj:=LM.O y (by rw[←iB];exact List.getElem_mem hlt);have Hym:=Qh Oj;have bB:=Qh (show P (L.take (k+1))=P (L.take k)++[aN (iE y.af)++aN (iv bE n t y)] by rw[List.take_succ_eq_append_getElem hlt,iB];exact HP.O.snoc _ _);have ZE:=HT.O.ok y Oj.1.1;have hyp:=ZE.af;obtain⟨ya,yc,rfl,_,_,_⟩:=id h1;obtain⟨yx,yd,rfl,_,_,_⟩:=id h2;obtain⟨j,m,hj1,xk,hj3,hj4⟩:=Xsi y.af;have UC:=Qh (fun w=>(Xk1 y.af (by omega) w).mono (fun e w' h=>(⟨h.1,by rw[h.2];exact Qb _ _⟩:e= .returned (.int .i64 (kM y.af))∧Below w.heap.size w w')));rw[hj1]at UC;have Hyo:=Qh ZE;have Hy1:=Qh h1;have Hy2:=Qh h2;have Cz:=Xmv y.af;have Ie:=mQ (iE y.af) (by omega);have Za:=Xmq bE Xpl n t y;have Om:=mQ (iv bE n t y) (by omega);have Hme:=Qh (fun w hw hc=>Hih.O I2 (HI.O.mono UF.O) _ (Hv.O.mono UF.O) y _ _ Hy1.O Hy2.O Hyo.O Hym.O.2 (HT.O.dir y Hym.O.1.1) w hw bn bt bd B hc);have Ay:eX [iE y.af,iv bE n t y]=aN (iE y.af)++aN (iv bE n t y):=by simp[eX]
    have ZF:(eX [iE y.af,iv bE n t y]).length≤1000:=by rw[Ay,List.length_append];omega
    have Jp:=Qh (fun b w hv hw=>Ph I2 (HI.O.mono UF.O) b 0 2 2 [iE y.af,iv bE n t y] rfl (by simp) (by unfold maxLen;omega) w hv (by omega) hw);rw[Ay]at Jp;have Jw:=Qh hj4;have HB:=Qh (bS (n:=wr.heap.size) (e:=y) (va:= .slice ya y.ai.length yc) (vx:= .slice yx y.ak.length yd) (t:=26) rfl (Qb _ _));have Ai:=dz.alloc (.cells #[.int .i64 y.ag,S y.af,.slice ya y.ai.length yc,S y.target,.int .i64 y.size,S y.aj,.slice yx y.ak.length yd] 26);have wU:=hb.alloc hb.size (.cells #[.int .i64 y.ag,S y.af,.slice ya y.ai.length yc,S y.target,.int .i64 y.size,S y.aj,.slice yx y.ak.length yd] 26);have Rs:=Qh (Jm.O.past (.cells #[.int .i64 y.ag,S y.af,.slice ya y.ai.length yc,S y.target,.int .i64 y.size,S y.aj,.slice yx y.ak.length yd] 26));have ZG:=Qh (bD.O.alloc (.cells #[.int .i64 y.ag,S y.af,.slice ya y.ai.length yc,S y.target,.int .i64 y.size,S y.aj,.slice yx y.ak.length yd] 26));clear iB h1 h2 Oj ZE hj1 hj4 Ay ZF bD Jm;obtain⟨y0,y1,y2,y3,y4,y5,y6⟩:=HB.O;have x1:=cell_regrown y1;have w1':IntKind.i64.wrap (j+1)=(m:Int):=by rw[xk];exact IntWalk.i64_in _ (by omega)
    have w2':(0:Int)≤(m:Int):=by omega
    have w3':(m:Int)≤(y.af.length:Int):=by omega
    have w4':((m:Int)).toNat=m:=by omega
    generalize iE y.af=lp at bB Cz Ie Jp Jw;generalize iv bE n t y=mk at bB Za Om Hme Jp;generalize P (L.take k)=u at bB Gj LP ZG;clear xk;go_wp2_with fail
    refine wp_region_quiet_below (by kernel_rfl) (by kernel_rfl) ?_;repeat(go_big_quiet_step ((with_reducible first|exact Calls.regrown_of (UC.O _))))
    refine wpQuiet_nil ?_;intro w5 bg;have aY:Below ((wr.alloc (.cells #[.int .i64 y.ag,S y.af,.slice ya y.ai.length yc,S y.target,.int .i64 y.size,S y.aj,.slice yx y.ak.length yd] 26))).heap.size ((wr.alloc (.cells #[.int .i64 y.ag,S y.af,.slice ya y.ai.length yc,S y.target,.int .i64 y.size,S y.aj,.slice yx y.ak.length yd] 26))) w5:=by
     obtain⟨pq,rfl⟩:=bg;exact below_regrown _ _ _
    clear bg;have Hlp:=Qh (show List.take (y.af.length-m) (List.drop m y.af)=lp by rw[List.take_of_length_le (by simp)];exact Jw.O);rw[Hlp.O];have mD:=Qh (HB.O.aA aY);have Py:=Rs.O.aA aY;have bX:Ok I2 w5:=Ai.below (Qn _) aY;have bV:=wU.trans (aY.mono wU.size);have Ho5:=Qh (ZG.O.below aY);have g3:=Py.self;have Hc5:=Qh Py;obtain⟨T,hT⟩:∃T,aN lp++aN mk=T:=⟨_,rfl⟩;have hTl:T.length≤1000:=by rw[←hT,List.length_append];omega
    rw[hT]at Jp bB;clear aY wU Ai HB Rs ZG y0 y1 y2 y3 y4 y5 y6 x1 hT Py w1' w2' w3' w4';obtain⟨y0,y1,y2,y3,y4,y5,y6⟩:=mD.O;go_wp2_with fail
    refine(Hme.O _ bX Hc5.O).mono ?_;rintro e6 w6 ⟨rfl,fF⟩;have lm:Ok I2 w6:=bX.below (Qn _) fF;have iT:=bV.trans (fF.mono bV.size);have Ho6:=Qh ((Ho5.O.below fF).alloc (.cells #[S lp,S mk] 9));have HS:=Qh (Nl w6 [lp,mk] 9);have LQ:=iT.alloc iT.size (.cells #[S lp,S mk] 9);clear fF bV y0 y1 y2 y3 y4 y5 y6 g3 Ho5 mD;go_wp2_with fail
    refine(Jp.O _ _ HS.O (lm.alloc _)).mono ?_;rintro e7 w7 ⟨rfl,jJ⟩;have Ho7:=Qh (Ho6.O.below jJ);have qD:=LQ.trans (jJ.mono LQ.size);have Bh:=qD.size;clear jJ LQ iT Ho6;go_wp2_with (at_builtin;refine oq (w0:=w7) JW rfl _ _ rfl _ _ _ rfl Ho7.O T [S T] _ rfl rfl (by omega) (by omega) Bh ?_)
    intro v9 w9 dF fw;have iq:=Below.own qD fw Ho7.O (Qn _) Bh;go_wp2;go_roundw;case rel=>exact⟨k+1,by omega,by go_num,dF.Jv bB.O.symm,iq⟩
    case measure=>simp[intOf];omega
   ·have aG:L.take k=L:=List.take_of_length_le (by omega);rw[aG]at Gj LP bD;have Hm:=Qh HP.O.fin;generalize P L=u at Gj LP Hm bD;clear aG;obtain⟨g,cap',rfl,Cv,hgl,Sj⟩:=Xrg bD.O (by intro e;rw[e]at LP;simp at LP);have Zp:=Qh Sj;have Hpn:=Qh LP;have IP:u.length≤1000000:=by omega
    clear Sj LP;go_wp2_with fail
    refine(Xqt g 0 cap' u.length u rfl u.flatten rfl (by omega) _ Zp.O Cv hgl IP).mono ?_;rintro e5 w5 ⟨rfl,aY⟩;go_wp2;go_ret;have xy:=hb.trans (aY.mono hb.size);exact⟨FR Hm.O.symm,aK.trans (xy.mono oV)⟩
def sO(t:List ay)(p:ae):ae×Int:=if p=[]then(iv bE 10 t mF,0)else match dC t p with|none=>([],9)|some x=>(iv bE 10 t x,0)
theorem Xxk(x:ay):Deep 10 x:=by unfold Deep;omega
theorem Xv8(t:List ay):mF.ag=2→aU t mF.af=0:=fun _=>by unfold aU;rw[if_pos (show mF.af=[]from rfl)]
theorem Xuz(t:List ay)(h:p=[]):sO t p=(iv bE 10 t mF,0):=by rw[sO,if_pos h]
theorem Xxh{ok:Bool}(hp:p≠[])(h:jf t p=(x,ok)):(ok=false∧sO t p=([],9))∨(ok=true∧x∈t∧sO t p=(iv bE 10 t x,0)):=by
 unfold jf at h;rw[sO,if_neg hp];cases hg:dC t p with
 |none=>rw[hg]at h;cases h;exact .inl ⟨rfl,rfl⟩
 |some z=>
  rw[hg]at h;cases h;exact .inr ⟨rfl,List.mem_of_find?_eq_some hg,rfl⟩
theorem ZH{d:ae×Int}{s:ae}(h:d=(s,n)):Ending.returned (.tuple #[S s,.int .i64 n])= .returned (.tuple #[S d.1,.int .i64 d.2]):=by rw[h]
abbrev Ch(w:World):Value:= .func (.func 88) #[] #[.pointer (some ⟨w.heap.size+1+1,0,none⟩),.pointer (some ⟨w.heap.size,0,none⟩),.pointer (some ⟨w.heap.size+1+1+1,0,none⟩)]
abbrev G8(w:World)(v:Value):World:=(((w.alloc (.cells #[v] 33)).alloc (.map jX 3)).alloc (.cells #[.map (some (w.heap.size+1))] 128)).alloc (.cells #[Ch w] 130)
theorem Xvd(w:World)(v:Value):sN (G8 w v) (w.heap.size+1+1) w.heap.size (w.heap.size+1+1+1) (w.heap.size+1) v:=by
 have e0:(w.alloc (.cells #[v] 33)).heap[w.heap.size]?=some (.cells #[v] 33):=heap_alloc_new w _;have e1:=heap_alloc_new (w.alloc (.cells #[v] 33)) (.map jX 3);rw[show(w.alloc (.cells #[v] 33)).heap.size=w.heap.size+1 by simp]at e1;have e2:=heap_alloc_new ((w.alloc (.cells #[v] 33)).alloc (.map jX 3)) (.cells #[.map (some (w.heap.size+1))] 128);rw[show((w.alloc (.cells #[v] 33)).alloc (.map jX 3)).heap.size=w.heap.size+1+1 by simp]at e2;have e3:=heap_alloc_new (((w.alloc (.cells #[v] 33)).alloc (.map jX 3)).alloc (.cells #[.map (some (w.heap.size+1))] 128)) (.cells #[Ch w] 130);rw[show(((w.alloc (.cells #[v] 33)).alloc (.map jX 3)).alloc (.cells #[.map (some (w.heap.size+1))] 128)).heap.size=w.heap.size+1+1+1 by simp]at e3;have b2:=(Below.heap_alloc _ (.cells #[Ch w] 130) (w.heap.size+1+1) (by simp)).trans e2;have b1:=(Below.heap_alloc _ (.cells #[Ch w] 130) (w.heap.size+1) (by simp[Nat.add_assoc])).trans ((Below.heap_alloc _ (.cells #[.map (some (w.heap.size+1))] 128) _ (by simp)).trans e1);have b0:=(Below.heap_alloc _ (.cells #[Ch w] 130) w.heap.size (by simp[Nat.add_assoc])).trans ((Below.heap_alloc _ (.cells #[.map (some (w.heap.size+1))] 128) _ (by simp[Nat.add_assoc])).trans ((Below.heap_alloc _ (.map jX 3) _ (by simp)).trans e0));exact⟨(cell_of_row _ _ 0 _ _ _ b2).trans rfl,b1,(cell_of_row _ _ 0 _ _ _ b0).trans rfl,(cell_of_row _ _ 0 _ _ _ e3).trans rfl⟩
theorem Xrz(w:World)(v:Value):Below w.heap.size w (G8 w v):=
 ((((Qb _ _).alloc (Qn _) _).alloc (by simp) _).alloc (by simp[Nat.add_assoc]) _).alloc (by simp[Nat.add_assoc]) _
theorem Xnf(I:IH)(hI:dG I)(v:Value)(t:List ay)(hv:bf bC I v t)(hT:UD t)(p:ae)(w:World)(hw:Ok I w):
 Calls Tryz.prog 32 #[v,S p] w fun e w'=>e= .returned (.tuple #[S (sO t p).1,.int .i64 (sO t p).2])∧Below w.heap.size w w':=by
 have Hg:=Qh (fun w hw=>TC I v t hv p w hw);have Hm:=Qh (fun x va vx dV dX hx Ov w hw bn bt bd B hc=>Xuv t hT 10 I hI v hv x va vx dV dX hx (Xxk x) Ov w hw bn bt bd B hc);obtain⟨ao,cap,rfl,dD,il,_⟩:=id hv;have HT:=Qh hT;clear hv hT;have HC:=Qh (Xvd w (.slice ao t.length cap));have Rt:=Qh (Xrz w (.slice ao t.length cap));have G9:Ok I (G8 w (.slice ao t.length cap)):=hw.below (Qn _) Rt.O;have r3:=HC.O.aJ;simp only[G8,Ch]at r3;obtain⟨x,ok,hg⟩:∃x ok,jf t p=(x,ok):=⟨_,_,rfl⟩;rw[hg]at Hg;by_cases hp:p=[]
 ·obtain⟨p1,p2,p3,p4⟩:=Bu hp;have Hn:=Qh (Xuz t hp);clear hp hg;have lI:(Tryz.prog.info? 26).map (·.size)=some 7:=by kernel_rfl
  have EM:(aQ mF (.slice none 0 0) (.slice none 0 0)).all (·.oneCell')=true:=by simp[Value.oneCell']
  go_enter Tryz.func32,Tryz.ntmps32
  go_wp2_with fail
  refine(Xqn _).mono ?_;rintro e w1 ⟨rfl,rfl⟩;go_wp2_with fail
  refine(Hg.O _ G9).mono ?_;rintro e w1 ⟨va,vx,rfl,h1,h2,au⟩;obtain⟨aa,ca,rfl,_,_,_⟩:=id h1;obtain⟨ax,cx,rfl,_,_,_⟩:=id h2;have qX:=HC.O.aA au;have aB:Ok I w1:=G9.below (Qn _) au;have av:=Rt.O.trans (au.mono Rt.O.size);have xy:=heap_alloc_new w1 (.cells #[.int .i64 x.ag,S x.af,.slice aa x.ai.length ca,S x.target,.int .i64 x.size,S x.aj,.slice ax x.ak.length cx] 26);clear h1 h2 r3 au;go_upto_region 9 with(refine wpList_store_row rfl 26 _ _ rfl w1.heap.size (aQ mF (.slice none 0 0) (.slice none 0 0)) rfl rfl 26 (aQ x (.slice aa x.ai.length ca) (.slice ax x.ak.length cx)) xy lI rfl EM ?_)
  have Ik:Below w1.heap.size w1 ((w1.alloc (.cells #[.int .i64 x.ag,S x.af,.slice aa x.ai.length ca,S x.target,.int .i64 x.size,S x.aj,.slice ax x.ak.length cx] 26)).setRow w1.heap.size (aQ mF (.slice none 0 0) (.slice none 0 0))):=below_setRow ((Qb _ _).alloc (Qn _) _) (Qn _) _;have aZ:((w1.alloc (.cells #[.int .i64 x.ag,S x.af,.slice aa x.ai.length ca,S x.target,.int .i64 x.size,S x.aj,.slice ax x.ak.length cx] 26)).setRow w1.heap.size (aQ mF (.slice none 0 0) (.slice none 0 0))).heap[w1.heap.size]?=some (.cells (aQ mF (.slice none 0 0) (.slice none 0 0)) 26 (0,0)):=setRow_heap _ _ _ _ _ _ xy;generalize(w1.alloc (.cells #[.int .i64 x.ag,S x.af,.slice aa x.ai.length ca,S x.target,.int .i64 x.size,S x.aj,.slice ax x.ak.length cx] 26)).setRow w1.heap.size (aQ mF (.slice none 0 0) (.slice none 0 0))=w2 at Ik aZ ⊢;have tH:=qX.aA Ik;have Fv:=Qh tH;have aP:Ok I w2:=aB.below (Qn _) Ik;have aK:=av.trans (Ik.mono av.size);have g3:=tH.self;have d0:w2.cell? ⟨w1.heap.size,0,none⟩=some (.int .i64 2):=(cell_of_row _ _ 0 _ _ _ aZ).trans rfl;have d1:w2.cell? ⟨w1.heap.size,1,none⟩=some (S []):=(cell_of_row _ _ 1 _ _ _ aZ).trans rfl;have d2:w2.cell? ⟨w1.heap.size,2,none⟩=some (.slice none 0 0):=(cell_of_row _ _ 2 _ _ _ aZ).trans rfl;have d3:w2.cell? ⟨w1.heap.size,3,none⟩=some (S []):=(cell_of_row _ _ 3 _ _ _ aZ).trans rfl;have d4:w2.cell? ⟨w1.heap.size,4,none⟩=some (.int .i64 0):=(cell_of_row _ _ 4 _ _ _ aZ).trans rfl;have d5:w2.cell? ⟨w1.heap.size,5,none⟩=some (S []):=(cell_of_row _ _ 5 _ _ _ aZ).trans rfl;have d6:w2.cell? ⟨w1.heap.size,6,none⟩=some (.slice none 0 0):=(cell_of_row _ _ 6 _ _ _ aZ).trans rfl;clear aZ xy Ik tH;go_wp2_with fail
  refine(Hm.O mF (.slice none 0 0) (.slice none 0 0) (bf.nil _ _) (bf.nil _ _) Xu3 (Xv8 t) _ aP _ _ _ _ Fv.O).mono ?_;rintro e w3 ⟨rfl,bU⟩;go_wp2;go_ret2;exact⟨ZH Hn.O,aK.trans (bU.mono aK.size)⟩
 ·obtain⟨p1,p2,p3,p4⟩:=zC hp;have MI:=Xxh hp hg;clear hp hg;rcases MI with⟨rfl,hn⟩|⟨rfl,hxt,hn⟩
  all_goals
   have Hn:=Qh hn;clear hn;go_enter Tryz.func32,Tryz.ntmps32
   go_wp2_with fail
   refine(Xqn _).mono ?_;rintro e w1 ⟨rfl,rfl⟩;go_wp2_with fail
   refine(Hg.O _ G9).mono ?_;rintro e w1 ⟨va,vx,rfl,h1,h2,au⟩;obtain⟨aa,ca,rfl,_,_,_⟩:=id h1;obtain⟨ax,cx,rfl,_,_,_⟩:=id h2;have aB:Ok I w1:=G9.below (Qn _) au;have av:=Rt.O.trans (au.mono Rt.O.size);have Jf:=Qh ((HC.O.aA au).past (.cells #[.int .i64 x.ag,S x.af,.slice aa x.ai.length ca,S x.target,.int .i64 x.size,S x.aj,.slice ax x.ak.length cx] 26));have g3:=Jf.O.self;clear r3 au
  ·clear h1 h2;go_wp2;go_ret2;exact⟨ZH Hn.O,av.alloc av.size _⟩
  ·have Hx:=Qh (fun w hw bn bt bd B hc=>Hm.O x _ _ h1 h2 (HT.O.ok x hxt) (HT.O.dir x hxt) w hw bn bt bd B hc);clear h1 h2 hxt;go_wp2_with fail
   refine(Hx.O _ (aB.alloc _) _ _ _ _ Jf.O).mono ?_;rintro e2 w2 ⟨rfl,aD⟩;go_wp2;go_ret2;exact⟨ZH Hn.O,(av.alloc av.size _).trans (aD.mono (by have:=av.size;simp;omega))⟩
