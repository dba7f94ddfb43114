/- Lemmas for the claim's theorem;conditions: as each says. -/
import Derived.Test.YtegieeommgiknaaGreatDoorU00
import Derived.Lib.SplitLaws
import Derived.Lib.Join
import Derived.Laws.RangeAny
import Derived.Shelf.GgClosure.StringsIndexFunc
import Derived.Test.YtegieeommgiknaaGreatDoorRows
set_option maxHeartbeats 0
set_option maxRecDepth 100000
set_option linter.all false
namespace Go.Proofs.YtegieeommgiknaaGreatDoor
open Go.RowKit
variable{I:IH}{v:Value}{w:World}{l:List af}{s x y:af}
def At.Wf(x:At):Prop:=x.k.length≤9223372036854775807∧x.v.length≤9223372036854775807
abbrev At.val(x:At):Value:= .agg #[S x.k,S x.v]
def nk:Ty At:=Ty.flat 2 (fun x=> [S x.k,S x.v]) (fun _=>rfl) (fun _ u h=>by simp at h;rcases h with rfl|rfl<;>rfl)
theorem yD{l:List At}(h:aZ nk I v l)(hw:Ok I w)(i:Nat)(hi:i<l.length):∃x b off cap,l[i]=x∧v= .slice (some ⟨b,off,none⟩) l.length cap∧
 w.cell? ⟨b,off+i*2,none⟩=some (S x.k)∧w.cell? ⟨b,off+i*2+1,none⟩=some (S x.v):=by
 obtain⟨b,off,cap,cs,hv,jf,hc⟩:=h.at_ hw hi;have lv:cs=[S l[i].k,S l[i].v]:=jf;subst lv;exact⟨_,b,off,cap,rfl,hv,hc 0 _ rfl,hc 1 _ rfl⟩
def mU:Ty Xt:=Ty.flat 3 (fun x=> [.int .i64 x.s,.int .i64 x.o,.int .i64 x.n]) (fun _=>rfl) (fun _ u h=>by simp at h;rcases h with rfl|rfl|rfl<;>rfl)
theorem vg{l:List Xt}(h:aZ mU I v l)(hw:Ok I w)(i:Nat)(hi:i<l.length):∃x b off cap,l[i]=x∧v= .slice (some ⟨b,off,none⟩) l.length cap∧
 w.cell? ⟨b,off+i*3,none⟩=some (.int .i64 x.s)∧w.cell? ⟨b,off+i*3+1,none⟩=some (.int .i64 x.o)∧w.cell? ⟨b,off+i*3+2,none⟩=some (.int .i64 x.n):=by
 obtain⟨b,off,cap,cs,hv,jf,hc⟩:=h.at_ hw hi;have lv:cs=[.int .i64 l[i].s,.int .i64 l[i].o,.int .i64 l[i].n]:=jf;subst lv;exact⟨_,b,off,cap,rfl,hv,hc 0 _ rfl,hc 1 _ rfl,hc 2 _ rfl⟩
def Xt.Wf(x:Xt):Prop:=(-9223372036854775808≤x.s∧x.s≤9223372036854775807)∧(-9223372036854775808≤x.o∧x.o≤9223372036854775807)∧(-9223372036854775808≤x.n∧x.n≤9223372036854775807)
structure bD.Wf (e:bD):Prop where
 k0: -9223372036854775808≤e.av
 k1:e.av≤9223372036854775807
 aj:e.aj.length≤9223372036854775807
 ag:∀x∈e.ag,x.Wf
 target:e.target.length≤9223372036854775807
 s0: -9223372036854775808≤e.size
 s1:e.size≤9223372036854775807
 aD:e.aD.length≤9223372036854775807
 aC:∀x∈e.aC,x.Wf
abbrev eO(e:bD)(va vx:Value):List Value:=[.int .i64 e.av,S e.aj,va,S e.target,.int .i64 e.size,S e.aD,vx]
abbrev iF(e:bD)(va vx:Value):Value:= .agg #[.int .i64 e.av,S e.aj,va,S e.target,.int .i64 e.size,S e.aD,vx]
def bM:Ty bD where
 size:=7
 rd:=fun I cs e=> ∃va vx,cs=eO e va vx∧aZ nk I va e.ag∧aZ mU I vx e.aC
 len:=fun⟨_,_,h,_⟩=>by rw[h];rfl
 one:=fun⟨va,vx,h,h1,h2⟩ u hu=>by
  rw[h]at hu;simp at hu;rcases hu with rfl|rfl|rfl|rfl|rfl|rfl|rfl<;>first|rfl|exact h1.one|exact h2.one
 mono:=fun hI ⟨va,vx,h,h1,h2⟩=>⟨va,vx,h,h1.mono hI,h2.mono hI⟩
structure Un (w:World) (b o:Nat) (e:bD) (va vx:Value):Prop where
 c0:w.cell? ⟨b,o,none⟩=some (.int .i64 e.av)
 c1:w.cell? ⟨b,o+1,none⟩=some (S e.aj)
 c2:w.cell? ⟨b,o+2,none⟩=some va
 c3:w.cell? ⟨b,o+3,none⟩=some (S e.target)
 c4:w.cell? ⟨b,o+4,none⟩=some (.int .i64 e.size)
 c5:w.cell? ⟨b,o+5,none⟩=some (S e.aD)
 c6:w.cell? ⟨b,o+6,none⟩=some vx
theorem wD{l:List bD}(h:aZ bM I v l)(hw:Ok I w)(i:Nat)(hi:i<l.length):∃x va vx b off cap,l[i]=x∧v= .slice (some ⟨b,off,none⟩) l.length cap∧
 Un w b (off+i*7) x va vx∧aZ nk I va x.ag∧aZ mU I vx x.aC:=by
 obtain⟨b,off,cap,cs,hv,⟨va,vx,jf,h1,h2⟩,hc⟩:=h.at_ hw hi;subst jf;exact⟨_,va,vx,b,off,cap,rfl,hv,⟨hc 0 _ rfl,hc 1 _ rfl,hc 2 _ rfl,hc 3 _ rfl,hc 4 _ rfl,hc 5 _ rfl,hc 6 _ rfl⟩,h1,h2⟩
theorem Xrk:∀(s:af),Lib.split s [47]=fJ [] s:=by
 have key:∀(n:Nat) (s:af),s.length≤n→Lib.split s [47]=fJ [] s:=by
  intro n;induction n with
  |zero=>
   intro s h;have:s=[]:=List.eq_nil_of_length_eq_zero (by omega);subst this;rfl
  |succ n ih=>
   intro s h;rcases Lib.index_spec s [47]with⟨h1,h2⟩|⟨i,h1,h2,h3,h4⟩
   ·have hn:∀c∈s,c≠47:=by
     intro c hc e;obtain⟨j,hj,rfl⟩:=List.getElem_of_mem hc;have:=h2 j (by omega);unfold Lib.occAt at this;rw[List.drop_eq_getElem_cons hj,e]at this;simp at this
    have h5:=Ul s [] [] hn;rw[List.append_nil,List.nil_append]at h5;rw[h5,Lib.split,Lib.count_miss h1];rfl
   ·have hi:i<s.length∧s[i]?=some 47:=by
     have h6:=Lib.occAt_head rfl h3;exact⟨(List.getElem?_eq_some_iff.1 h6).1,h6⟩
    have hn:∀c∈s.take i,c≠47:=by
     intro c hc e;obtain⟨j,hj,rfl⟩:=List.getElem_of_mem hc;have Gs:j<i:=by simp at hj;omega
     have:=h4 j Gs;unfold Lib.occAt at this;rw[List.drop_eq_getElem_cons (by omega)]at this;rw[List.getElem_take]at e;rw[e]at this;simp at this
    have hs:s=s.take i++47::s.drop (i+1):=by
     conv=>lhs;rw[←List.take_append_drop i s,List.drop_eq_getElem_cons hi.1]
     have:=hi.2;rw[List.getElem?_eq_getElem hi.1]at this;rw[Option.some.inj this]
    have h5:=Ul (s.take i) [] (47::s.drop (i+1)) hn;rw[←hs,List.nil_append]at h5;rw[h5,fJ,if_pos (by rfl),←ih (s.drop (i+1)) (by rw[List.length_drop];omega)];rw[Lib.split,Lib.count_hit (by simp) h1,Nat.add_comm,Lib.splitK,if_neg (by rw[h1];simp),h1];rfl
 exact fun s=>key s.length s (Qn _)
theorem Xuq(l:List af):Lib.join l [47]=fT l:=by
 induction l with
 |nil=>rfl
 |cons p l ih=>
  cases l with
  |nil=>simp[Lib.join,List.intercalate,fT]
  |cons q l=>
   rw[fT,←ih];simp[Lib.join,List.intercalate]
def dM(r:Nat):Bool:=!(decide (97≤r)&&decide (r≤122) || decide (48≤r)&&decide (r≤57) || decide (r=46) || decide (r=95) || decide (r=45))
theorem Xfd(c:UInt8):cZ c=!(dM c.toNat):=by
 have e:∀n:Nat,n<256→(c==UInt8.ofNat n)=decide (c.toNat=n):=fun n hn=>by
  rw[Bool.eq_iff_iff,beq_iff_eq,decide_eq_true_iff];constructor
  ·intro h;rw[h];simp;omega
  ·intro h;have:c=UInt8.ofNat c.toNat:=by simp
   rw[this,h]
 unfold cZ dM;rw[show(46:UInt8)=UInt8.ofNat 46 from rfl,show(95:UInt8)=UInt8.ofNat 95 from rfl,show(45:UInt8)=UInt8.ofNat 45 from rfl,e 46 (by omega),e 95 (by omega),e 45 (by omega)];simp[UInt8.le_iff_toNat_le]
theorem Xeg{r:Nat}(h:128≤r):dM r=true:=by
 unfold dM;simp;omega
theorem Xut(s:ByteArray):∀(f pos:Nat),s.size≤pos+f→decide (0≤Lib.idxFuncFrom dM true s f pos)=!((s.data.toList.drop pos).all cZ):=by
 intro f;induction f with
 |zero=>
  intro pos h;have hl:s.data.toList.length=s.size:=Array.length_toList;rw[List.drop_of_length_le (by omega)];rfl
 |succ f ih=>
  intro pos h;have hl:s.data.toList.length=s.size:=Array.length_toList;rw[Lib.idxFuncFrom];by_cases hp:pos<s.size
  ·rw[if_pos hp,List.drop_eq_getElem_cons (by omega),List.all_cons];have hb:s.data.toList[pos]'(by omega)=s[pos]'hp:=by
    rw[Array.getElem_toList];rfl
   rw[hb];by_cases ha:(s[pos]'hp).toNat<128
   ·rw[decode_ascii s pos hp ha];have hk:=Xfd (s[pos]'hp);cases hn:dM (s[pos]'hp).toNat
    ·rw[if_neg (by simp),hk,hn,ih (pos+1) (by omega)];simp
    ·rw[if_pos rfl,hk,hn];simp
   ·have hd:=decode_high s pos hp (by omega);rw[if_pos (Xeg hd.1),Xfd,Xeg (by omega)];simp
  ·rw[if_neg hp,List.drop_of_length_le (by omega)];rfl
theorem Xuu(s:af):decide (0≤Lib.idxFunc dM true ⟨s.toArray⟩)=!(s.all cZ):=by
 have:=Xut ⟨s.toArray⟩ (⟨s.toArray⟩:ByteArray).size 0 (by omega);rw[Lib.idxFunc,this];simp
def cmpL(a b:List af):Int:=if kZ a b then -1 else if kZ b a then 1 else 0
theorem Xtj(a b:af):jQ a b=cmpL (els a) (els b):=rfl
theorem Xm2(x:af)(a b:List af):cmpL (x::a) (x::b)=cmpL a b:=by
 unfold cmpL;rw[kZ,kZ,Iq];simp
theorem Xg3(h:Op.bytesLess x y=true)(a b:List af):cmpL (x::a) (y::b)= -1:=by
 unfold cmpL;rw[kZ,h];simp
theorem Xg4(h:Op.bytesLess y x=true)(a b:List af):cmpL (x::a) (y::b)=1:=by
 unfold cmpL;rw[kZ,kZ,h,RA h];have:(x==y)=false:=by simpa using(RB h).symm
 rw[this];simp
theorem Xm1{a b:List af}{k:Nat}(h:a.take k=b.take k)(ha:k≤a.length)(hb:k≤b.length):cmpL a b=cmpL (a.drop k) (b.drop k):=by
 induction k generalizing a b with
 |zero=>rfl
 |succ k ih=>
  cases a with
  |nil=>simp at ha
  |cons x a=>
   cases b with
   |nil=>simp at hb
   |cons y b=>
    simp only[List.take_succ_cons,List.cons.injEq]at h;obtain⟨rfl,h⟩:=h;rw[Xm2,List.drop_succ_cons,List.drop_succ_cons];exact ih h (by simpa using ha) (by simpa using hb)
theorem iG{P:Program}{t:TypeId}(h:P.underlying t=some .string)(s:af)(i:Int)(j:Nat)(hi:i=(j:Int))(hj:j<s.length)(W:World):(Instr.index t (S s) (.int .i64 i)).run P W= .ok (.int .u8 ((s.getD j 0).toNat:Nat)) W:=by
 subst hi;rw[S,run_index_string W t _ .i64 _ h];have bS:(⟨s.toArray⟩:ByteArray).size=s.length:=by simp[ByteArray.size]
 rw[dif_pos ⟨by omega,by rw[bS];omega⟩];have e:(⟨s.toArray⟩:ByteArray)[((j:Nat):Int).toNat]'(by rw[bS];simpa using hj)=s.getD j 0:=by
  simp[List.getD,List.getElem?_eq_getElem hj,ByteArray.getElem_eq_getElem_data]
 rw[e]
theorem Fy(h:aZ iE I v l)(hw:Ok I w)(i:Nat)(hi:i<l.length):∃s b off cap,l[i]=s∧v= .slice (some ⟨b,off,none⟩) l.length cap∧
 w.cell? ⟨b,off+i,none⟩=some (S s):=by
 obtain⟨b,off,cap,cs,hv,jf,hc⟩:=h.at_ hw hi;have lv:cs=[S l[i]]:=jf;subst lv;have:=hc 0 _ rfl;exact⟨_,b,off,cap,rfl,hv,by simpa[iE,Ty.flat]using this⟩
theorem Xt4:(Tryz.prog.info? 9).map (fun i=>(i.zero,i.size,i.bytes))=some (some (.string ⟨#[]⟩),1,16):=by kernel_rfl
theorem Oq:eZ Tryz.prog 90 9 iE 16:=eZ.of Tryz.underlying90 Xt4 rfl (by decide) rfl
theorem XZ(c:UInt8)(n:Nat)(hn:n<256):(((c.toNat:Nat):Int)==(n:Int))=(c==UInt8.ofNat n):=by
 rw[Bool.eq_iff_iff,beq_iff_eq,beq_iff_eq];constructor
 ·intro h;have h':c.toNat=n:=by omega
  rw[←h'];simp
 ·intro h;rw[h];simp;omega
theorem RD(I:IH)(s:af)(hs:s.length≤4294967280)(w:World)(hw:Ok I w):
 Calls Tryz.prog 138 #[S s] w (OV iE I w (els s)):=by
 have jN:∀b,w.heap.size≤b→I b=none:=fun b hb=>hw.fresh hb;have lM:=Qh jN;clear jN;have bI:=Qh (show aQ iE 9 I (w.alloc (.cells #[] 9)) w.heap.size (.slice (some ⟨w.heap.size,0,none⟩) 0 0) []from⟨[],World.ownsRow_made w #[] 0 (Qn _) (Nat.zero_le _) (by simp),dF.nil _ _⟩);by_cases h0:s=[]
 ·have Hs:=Qh (show els s=[] by rw[h0];rfl);have f1:(s==[])=true:=by rw[h0];rfl
  have f2:s.isEmpty=true:=by rw[h0];rfl
  have f3:(!s.isEmpty)=false:=by rw[h0];rfl
  clear h0;go_enter Tryz.func138,Tryz.ntmps138
  go_wp2;go_ret;obtain⟨I',kL,lI,nV,_⟩:=bI.O.freeze (hw.alloc _) lM.O;rw[Hs.O];exact⟨_,I',rfl,(Qb _ _).alloc (Qn _) _,kL,lI,nV⟩
 ·have Hs:=Qh (show els s=fJ [] s by rw[els,if_neg h0]);have f1:(s==[])=false:=by simpa using h0
  have f2:s.isEmpty=false:=by cases s<;>simp_all
  have f3:(!s.isEmpty)=true:=by rw[f2];rfl
  clear h0;go_enter Tryz.func138,Tryz.ntmps138
  go_wp2_with fail
  go_loopw [3,4,5] (fun s3 s4 s5 wr=> ∃(k:Nat) (out:List af) (p:af),k≤s.length∧s5= .int .i64 k∧s4=S p∧aQ iE 9 I wr w.heap.size s3 out∧out.length≤k∧p.length≤k∧out++fJ p (s.drop k)=fJ [] s∧Below w.heap.size w wr) (fun _ _ i _=>s.length-(intOf i).toNat)
  case atStart=>exact⟨0,[],[],Nat.zero_le _,rfl,rfl,bI.O,Qn _,Qn _,rfl,(Qb _ _).alloc (Qn _) _⟩
  case round=>
   clear bI;obtain⟨k,out,p,hk,rfl,rfl,bU,Gt,qp,hr,hb⟩:=hrel;have Hr:=Qh hr;have di:=Qh bU;have eX:Ok I wr:=hw.below (Qn _) hb;clear hr bU;by_cases hlt:k<s.length
   ·have hx:=iG Tryz.underlying9 s (k:Int) k rfl hlt;have hd:s.drop k=s.getD k 0::s.drop (k+1):=by rw[List.drop_eq_getElem_cons hlt];simp[List.getD,hlt]
    have pE:(s.drop k).take 1=[s.getD k 0]:=by rw[hd];rfl
    have mq:=Qh pE;have jO:fJ [] s=out++(if s.getD k 0==47 then p::fJ [] (s.drop (k+1))else fJ (p++[s.getD k 0]) (s.drop (k+1))):=by rw[←Hr.O,hd];rfl
    have he:=XZ (s.getD k 0) 47 (by decide);generalize hg:s.getD k 0=ch at hx jO he mq;have bI:=Qh jO;clear hd pE jO hg;have AJ:IntKind.i64.wrap ((k:Int)+1)=(k:Int)+1:=IntWalk.i64_in _ (by omega);cases hc:(ch==47)
    ·rw[show(UInt8.ofNat 47)=47 from rfl,hc]at he;have jq:=Qh (show out++fJ (p++[ch]) (s.drop (k+1))=fJ [] s by rw[bI.O,hc];rfl);clear hc;go_wp2;go_roundw;case rel=>exact⟨k+1,out,p++[ch],by omega,by go_num,(by first|rfl|(simp[S,←mq.O];done)|(congr;simp[←mq.O])),di.O,by omega,(by simp;omega),jq.O,hb⟩
     case measure=>simp[intOf];omega
    ·rw[show(UInt8.ofNat 47)=47 from rfl,hc]at he;have jq:=Qh (show(out++[p])++fJ [] (s.drop (k+1))=fJ [] s by rw[bI.O,hc];simp);clear hc;go_wp2_with (at_builtin;refine qX (w0:=wr) Oq rfl _ _ rfl _ _ _ rfl di.O p [S p] _ rfl rfl (by omega) (by omega) (Below.size hb) ?_)
     intro v9 w9 bX bK;have iO:=Below.own hb bK di.O (Qn _) (Below.size hb);go_wp2;go_roundw;case rel=>exact⟨k+1,out++[p],[],by omega,by go_num,rfl,bX,(by simp;omega),(by simp),jq.O,iO⟩
     case measure=>simp[intOf];omega
   ·have yF:=Qh (show out++[p]=fJ [] s by rw[←Hr.O,List.drop_of_length_le (by omega)];rfl);go_wp2_with (at_builtin;refine qX (w0:=wr) Oq rfl _ _ rfl _ _ _ rfl di.O p [S p] _ rfl rfl (by omega) (by omega) (Below.size hb) ?_)
    intro v9 w9 bX bK;have iO:=Below.own hb bK di.O (Qn _) (Below.size hb);have jD:Ok I w9:=Ok.own eX bK di.O lM.O;have Uo:=Qh bX;clear bX bK;go_wp2;go_ret;obtain⟨I',kL,lI,nV,_⟩:=Uo.O.freeze jD lM.O;rw[Hs.O,←yF.O];exact⟨_,I',rfl,iO,kL,lI,nV⟩
theorem Xmb(c:UInt8):cZ c=(decide (97≤c.toNat)&&decide (c.toNat≤122) || decide (48≤c.toNat)&&decide (c.toNat≤57) || decide (c.toNat=46) || decide (c.toNat=95) || decide (c.toNat=45)):=by
 rw[Xfd,dM,Bool.not_not]
theorem Xh4(s:af)(hs:s.length≤9223372036854775807)(w:World):
 Calls Tryz.prog 139 #[S s] w fun e w'=>e= .returned (.bool (comp s))∧Below w.heap.size w w':=by
 by_cases h1:1≤s.length;case neg=>
  have pF:decide (0<s.length)=false:=Qf (by omega);have qM:=Qh (show comp s=false by simp[comp,h1]);go_enter Tryz.func139,Tryz.ntmps139
  go_wp2_with fail
  go_loop [3,4] (fun s3 s4=>s3= .bool false∧s4= .int .i64 0) (fun _ _=>0)
  case atStart=>exact⟨rfl,rfl⟩
  case round=>
   obtain⟨rfl,rfl⟩:=hrel;go_wp2;go_ret;exact⟨jr qM.O.symm,Qb _ _⟩
 have pF:decide (0<s.length)=true:=Qt (by omega);by_cases mF:s.length≤32;case neg=>
  have uS:decide (s.length≤32)=false:=Qf mF;have qM:=Qh (show comp s=false by simp[comp,mF]);go_enter Tryz.func139,Tryz.ntmps139
  go_wp2_with fail
  go_loop [3,4] (fun s3 s4=>s3= .bool false∧s4= .int .i64 0) (fun _ _=>0)
  case atStart=>exact⟨rfl,rfl⟩
  case round=>
   obtain⟨rfl,rfl⟩:=hrel;go_wp2;go_ret;exact⟨jr qM.O.symm,Qb _ _⟩
 have uS:decide (s.length≤32)=true:=Qt mF;by_cases JB:s=[46];case pos=>
  subst JB;have qM:=Qh (show comp [46]=false by rfl);clear hs h1 pF mF uS;go_enter Tryz.func139,Tryz.ntmps139
  go_wp2_with fail
  go_loop [3,4] (fun s3 s4=>s3= .bool false∧s4= .int .i64 0) (fun _ _=>0)
  case atStart=>exact⟨rfl,rfl⟩
  case round=>
   obtain⟨rfl,rfl⟩:=hrel;go_wp2;go_ret;exact⟨jr qM.O.symm,Qb _ _⟩
 have f46:(s !=[46])=true:=by simpa using JB
 have g46:(s==[46])=false:=by simpa using JB
 by_cases Mg:s=[46,46];case pos=>
  subst Mg;have qM:=Qh (show comp [46,46]=false by rfl);clear hs h1 pF mF uS JB f46 g46;go_enter Tryz.func139,Tryz.ntmps139
  go_wp2_with fail
  go_loop [3,4] (fun s3 s4=>s3= .bool false∧s4= .int .i64 0) (fun _ _=>0)
  case atStart=>exact⟨rfl,rfl⟩
  case round=>
   obtain⟨rfl,rfl⟩:=hrel;go_wp2;go_ret;exact⟨jr qM.O.symm,Qb _ _⟩
 have f47:(s !=[46,46])=true:=by simpa using Mg
 have g47:(s==[46,46])=false:=by simpa using Mg
 have qM:=Qh (show comp s=s.all cZ by simp[comp,h1,mF,f46,f47]);clear JB Mg;go_enter Tryz.func139,Tryz.ntmps139
 go_wp2_with fail
 go_loop [3,4] (fun s3 s4=> ∃(k:Nat) (b:Bool),k≤s.length∧s4= .int .i64 k∧s3= .bool b∧(s.take k).all cZ=b) (fun _ i=>s.length-(intOf i).toNat)
 case atStart=>exact⟨0,true,Nat.zero_le _,rfl,rfl,rfl⟩
 case round=>
  obtain⟨k,b,hk,rfl,rfl,hr⟩:=hrel;have Hr:=Qh hr;clear hr;cases b
  ·have uw:=Qh (show s.all cZ=false by
    cases h:s.all cZ with
    |false=>rfl
    |true=>
     have:(s.take k).all cZ=true:=List.all_eq_true.2 fun x hx=>List.all_eq_true.1 h x (List.mem_of_mem_take hx);rw[Hr.O]at this;exact absurd this (by simp))
   go_wp2;go_ret;exact⟨jr (by rw[qM.O,uw.O]),Qb _ _⟩
  ·by_cases hlt:k<s.length
   ·have hx:=iG Tryz.underlying9 s (k:Int) k rfl hlt;have qJ:=Xmb (s.getD k 0);have mq:=Qh (show s.take (k+1)=s.take k++[s.getD k 0] by rw[List.take_succ_eq_append_getElem hlt];simp[List.getD,hlt]);have wC:(s.getD k 0).toNat<256:=(s.getD k 0).toNat_lt;generalize s.getD k 0=ch at qJ mq hx wC;generalize ch.toNat=c at qJ hx wC;rcases(show(97≤c∧c≤122)∨122<c∨(48≤c∧c≤57)∨c=46∨c=95∨c=45∨(c<48∧c≠46∧c≠45)∨(57<c∧c<97∧c≠95) by omega)with hc|hc|hc|hc|hc|hc|hc|hc
    ·have d97:decide (97≤(c:Int))=true:=by simp;omega
     have d122:decide ((c:Int)≤122)=true:=by simp;omega
     have d48:decide (48≤(c:Int))=true:=by simp;omega
     have d57:decide ((c:Int)≤57)=false:=by simp;omega
     have n46:((c:Int)==46)=false:=by simp;omega
     have n95:((c:Int)==95)=false:=by simp;omega
     have n45:((c:Int)==45)=false:=by simp;omega
     have rR:=Qh (show cZ ch=true by rw[qJ];simp;omega);clear qJ hc;go_wp2;go_round;case rel=>exact⟨k+1,true,by omega,by go_num,rfl,by rw[mq.O,List.all_append,Hr.O];simp[rR.O]⟩
     case measure=>simp[intOf];omega
    ·have d97:decide (97≤(c:Int))=true:=by simp;omega
     have d122:decide ((c:Int)≤122)=false:=by simp;omega
     have d48:decide (48≤(c:Int))=true:=by simp;omega
     have d57:decide ((c:Int)≤57)=false:=by simp;omega
     have n46:((c:Int)==46)=false:=by simp;omega
     have n95:((c:Int)==95)=false:=by simp;omega
     have n45:((c:Int)==45)=false:=by simp;omega
     have rR:=Qh (show cZ ch=false by rw[qJ];simp;omega);clear qJ hc;go_wp2;go_round;case rel=>exact⟨k+1,false,by omega,by go_num,rfl,by rw[mq.O,List.all_append,Hr.O];simp[rR.O]⟩
     case measure=>simp[intOf];omega
    ·have d97:decide (97≤(c:Int))=false:=by simp;omega
     have d122:decide ((c:Int)≤122)=true:=by simp;omega
     have d48:decide (48≤(c:Int))=true:=by simp;omega
     have d57:decide ((c:Int)≤57)=true:=by simp;omega
     have n46:((c:Int)==46)=false:=by simp;omega
     have n95:((c:Int)==95)=false:=by simp;omega
     have n45:((c:Int)==45)=false:=by simp;omega
     have rR:=Qh (show cZ ch=true by rw[qJ];simp;omega);clear qJ hc;go_wp2;go_round;case rel=>exact⟨k+1,true,by omega,by go_num,rfl,by rw[mq.O,List.all_append,Hr.O];simp[rR.O]⟩
     case measure=>simp[intOf];omega
    ·have d97:decide (97≤(c:Int))=false:=by simp;omega
     have d122:decide ((c:Int)≤122)=true:=by simp;omega
     have d48:decide (48≤(c:Int))=false:=by simp;omega
     have d57:decide ((c:Int)≤57)=true:=by simp;omega
     have n46:((c:Int)==46)=true:=by simp;omega
     have n95:((c:Int)==95)=false:=by simp;omega
     have n45:((c:Int)==45)=false:=by simp;omega
     have rR:=Qh (show cZ ch=true by rw[qJ];simp;omega);clear qJ hc;go_wp2;go_round;case rel=>exact⟨k+1,true,by omega,by go_num,rfl,by rw[mq.O,List.all_append,Hr.O];simp[rR.O]⟩
     case measure=>simp[intOf];omega
    ·have d97:decide (97≤(c:Int))=false:=by simp;omega
     have d122:decide ((c:Int)≤122)=true:=by simp;omega
     have d48:decide (48≤(c:Int))=true:=by simp;omega
     have d57:decide ((c:Int)≤57)=false:=by simp;omega
     have n46:((c:Int)==46)=false:=by simp;omega
     have n95:((c:Int)==95)=true:=by simp;omega
     have n45:((c:Int)==45)=false:=by simp;omega
     have rR:=Qh (show cZ ch=true by rw[qJ];simp;omega);clear qJ hc;go_wp2;go_round;case rel=>exact⟨k+1,true,by omega,by go_num,rfl,by rw[mq.O,List.all_append,Hr.O];simp[rR.O]⟩
     case measure=>simp[intOf];omega
    ·have d97:decide (97≤(c:Int))=false:=by simp;omega
     have d122:decide ((c:Int)≤122)=true:=by simp;omega
     have d48:decide (48≤(c:Int))=false:=by simp;omega
     have d57:decide ((c:Int)≤57)=true:=by simp;omega
     have n46:((c:Int)==46)=false:=by simp;omega
     have n95:((c:Int)==95)=false:=by simp;omega
     have n45:((c:Int)==45)=true:=by simp;omega
     have rR:=Qh (show cZ ch=true by rw[qJ];simp;omega);clear qJ hc;go_wp2;go_round;case rel=>exact⟨k+1,true,by omega,by go_num,rfl,by rw[mq.O,List.all_append,Hr.O];simp[rR.O]⟩
     case measure=>simp[intOf];omega
    ·have d97:decide (97≤(c:Int))=false:=by simp;omega
     have d122:decide ((c:Int)≤122)=true:=by simp;omega
     have d48:decide (48≤(c:Int))=false:=by simp;omega
     have d57:decide ((c:Int)≤57)=true:=by simp;omega
     have n46:((c:Int)==46)=false:=by simp;omega
     have n95:((c:Int)==95)=false:=by simp;omega
     have n45:((c:Int)==45)=false:=by simp;omega
     have rR:=Qh (show cZ ch=false by rw[qJ];simp;omega);clear qJ hc;go_wp2;go_round;case rel=>exact⟨k+1,false,by omega,by go_num,rfl,by rw[mq.O,List.all_append,Hr.O];simp[rR.O]⟩
     case measure=>simp[intOf];omega
    ·have d97:decide (97≤(c:Int))=false:=by simp;omega
     have d122:decide ((c:Int)≤122)=true:=by simp;omega
     have d48:decide (48≤(c:Int))=true:=by simp;omega
     have d57:decide ((c:Int)≤57)=false:=by simp;omega
     have n46:((c:Int)==46)=false:=by simp;omega
     have n95:((c:Int)==95)=false:=by simp;omega
     have n45:((c:Int)==45)=false:=by simp;omega
     have rR:=Qh (show cZ ch=false by rw[qJ];simp;omega);clear qJ hc;go_wp2;go_round;case rel=>exact⟨k+1,false,by omega,by go_num,rfl,by rw[mq.O,List.all_append,Hr.O];simp[rR.O]⟩
     case measure=>simp[intOf];omega
   ·have au:s.take k=s:=List.take_of_length_le (by omega);rw[au]at Hr;clear au;go_wp2;go_ret;exact⟨jr (by rw[qM.O,Hr.O]),Qb _ _⟩
theorem Xqs(q:af)(h:l≠[]):fT (l++[q])=fT l++47::q:=by
 induction l with
 |nil=>exact absurd rfl h
 |cons p l ih=>
  cases l with
  |nil=>rfl
  |cons r l=>
   rw[List.cons_append,Nf p (by simp),Nf p (by simp),ih (by simp)];simp
theorem Xek:∀(a b:List af),(fT a).length≤(fT (a++b)).length
 | [],_=>Nat.zero_le _
 | [p],[]=>Qn _
 | [p],q::b=>by
   rw[List.singleton_append,show fT [p]=p from rfl,Nf p (show q::b≠[] by simp)];simp
 |p::q::a,b=>by
  have:=Xek (q::a) b;rw[List.cons_append,Nf p (by simp),Nf p (by simp)];simp only[List.length_append,List.length_cons];omega
theorem Xd1(l:List af)(k:Nat):(fT (l.take k)).length≤(fT l).length:=by
 conv=>rhs;rw[←List.take_append_drop k l]
 exact Xek _ _
theorem Xqj(I:IH)(v:Value)(l:List af)(hv:aZ iE I v l)(hj:(fT l).length≤4294967296)(w:World)(hw:Ok I w):
 Calls Tryz.prog 143 #[v] w fun e w'=>e= .returned (S (fT l))∧Below w.heap.size w w':=by
 have hlen:=hv.bL;obtain⟨ao,cap,rfl,fu,iv,_⟩:=id hv;have Hv:=Qh hv;clear hv;have Hj:=Qh hj;go_enter Tryz.func143,Tryz.ntmps143
 go_wp2_with fail
 go_loopw [3,4] (fun s3 s4 wr=> ∃(k:Nat) (p:af),k≤l.length∧s4= .int .i64 k∧s3=S p∧fT (l.take k)=p∧Below w.heap.size w wr) (fun _ i _=>l.length-(intOf i).toNat)
 case atStart=>exact⟨0,[],Nat.zero_le _,rfl,rfl,rfl,Qb _ _⟩
 case round=>
  obtain⟨k,p,hk,rfl,rfl,hr,hb⟩:=hrel;have Hr:=Qh hr;clear hr;have eX:Ok I wr:=hw.below (Qn _) hb;by_cases hlt:k<l.length
  ·obtain⟨q,b,off,cap',Gu,dC,hc⟩:=Fy Hv.O eX k hlt;cases dC;have mq:=Qh (show l.take (k+1)=l.take k++[q] by rw[List.take_succ_eq_append_getElem hlt,Gu]);have N9:=Xd1 l (k+1);have Hjk:=Qh N9;clear Gu N9;by_cases D6:k=0
   ·have hd:decide (0<k)=false:=Qf (by omega);have Hn:=Qh (show fT (l.take (k+1))=p++q by rw[mq.O,←Hr.O,D6];simp[fT]);have ql:k<1:=by omega
    have sZ:p.length+q.length≤4294967296:=by have:=Hjk.O;rw[Hn.O]at this;simp at this;omega
    clear D6 hd;go_wp2;go_roundw;case rel=>exact⟨k+1,p++q,by omega,by go_num,(by first|rfl|simp),Hn.O,hb⟩
    case measure=>simp[intOf];omega
   ·have hd:decide (0<k)=true:=Qt (by omega);have Hn:=Qh (show fT (l.take (k+1))=p++[47]++q by
     rw[mq.O,Xqs q (fun e=>by have:=congrArg List.length e;rw[List.length_take]at this;simp only[List.length_nil]at this;omega),Hr.O];simp)
    have ql:0<k:=by omega
    have sZ:p.length+q.length+1≤4294967296:=by have:=Hjk.O;rw[Hn.O]at this;simp at this;omega
    clear D6 hd;go_wp2;go_roundw;case rel=>exact⟨k+1,p++[47]++q,by omega,by go_num,(by first|rfl|simp),Hn.O,hb⟩
    case measure=>simp[intOf];omega
  ·have Hn:=Qh (show fT l=p by rw[←Hr.O,List.take_of_length_le (by omega)]);go_wp2;go_ret;exact⟨OU Hn.O.symm,hb⟩
theorem aZ.Ex{α:Type}{T:Ty α}{l:List α}{ao:Option Addr}{m cap:Nat}(h:aZ T I (.slice ao m cap) l){n:Nat}(hn:n≤l.length):aZ T I (.slice ao n cap) (l.take n):=by
 obtain⟨Xq,cap',e,h1,h2,h3⟩:=h;injection e with e1 e2 e3
 subst e1 e3;have hl:(l.take n).length=n:=by rw[List.length_take,Nat.min_eq_left hn]
 refine⟨_,_,by rw[hl],by omega,h2,fun h0=> ?_⟩;obtain⟨b,off,arr,k1,k2,k3⟩:=h3 (by omega);refine⟨b,off,arr,k1,k2,fun i hi=> ?_⟩;obtain⟨cs,c1,c2⟩:=k3 i (by omega);exact⟨cs,by rw[List.getElem_take];exact c1,c2⟩
theorem Xiu:∀(s p:af) (q:af),q∈fJ p s→q.length≤p.length+s.length
 | [],p,q,h=>by
   rw[fJ]at h;simp at h;subst h;simp
 |c::s,p,q,h=>by
  rw[fJ]at h;split at h
  ·rcases List.mem_cons.1 h with rfl|h
   ·simp only[List.length_cons];omega
   ·have:=Xiu s [] q h;simp only[List.length_cons,List.length_nil]at this ⊢;omega
  ·have:=Xiu s _ q h;simp only[List.length_append,List.length_cons,List.length_nil]at this ⊢;omega
theorem Xtb{q:af}(h:q∈els s):q.length≤s.length:=by
 unfold els at h;split at h
 ·exact absurd h (by simp)
 ·have:=Xiu s [] q h;simpa using this
theorem X0(I:IH)(s:af)(w:World)(hw:Ok I w):
 Calls Tryz.prog 86 #[S s] w fun e w'=>e= .returned (.int .i64 (aW s))∧Below w.heap.size w w':=by
 by_cases abq:s.length≤200;case neg=>
  have hd:decide (200<s.length)=true:=Qt (by omega);have Hp:=Qh (show aW s=6 by rw[aW,if_pos (by omega)]);go_enter Tryz.func86,Tryz.ntmps86
  go_wp2;go_ret;exact⟨dZ Hp.O.symm,Qb _ _⟩
 have hd:decide (200<s.length)=false:=Qf (by omega);have Fz:=Qh (fun(q:af) (h:q∈els s)=>Xtb h);have Hp:=Qh (show aW s=if 8<(els s).length then 6 else if(els s).all comp then 0 else 7 by rw[aW,if_neg (by omega)]);go_enter Tryz.func86,Tryz.ntmps86
 go_wp2_with fail
 refine(RD I s (by omega) _ hw).mono ?_;generalize els s=l at Fz Hp;rintro e w1 ⟨v1,I1,rfl,aG,iY,aO,je⟩;obtain⟨ao,cap,rfl,fu,iv,_⟩:=id je;have wU:=Qh je;clear je iY;by_cases h8:l.length≤8;case neg=>
  have hd8:decide (8<l.length)=true:=Qt (by omega);have KQ:=Qh (show aW s=6 by rw[Hp.O,if_pos (by omega)]);go_wp2;go_ret;exact⟨dZ KQ.O.symm,aG⟩
 have hd8:decide (8<l.length)=false:=Qf (by omega);have KQ:=Qh (show aW s=if l.all comp then 0 else 7 by rw[Hp.O,if_neg (by omega)]);go_wp2_with fail
 go_loopw [4] (fun s4 wr=> ∃k:Nat,k≤l.length∧s4= .int .i64 k∧(l.take k).all comp=true∧Below w1.heap.size w1 wr) (fun i _=>l.length-(intOf i).toNat)
 case atStart=>exact⟨0,Nat.zero_le _,rfl,rfl,Qb _ _⟩
 case round=>
  obtain⟨k,hk,rfl,hr,hb⟩:=hrel;have Hr:=Qh hr;clear hr;have eX:Ok I1 wr:=aO.below (Qn _) hb;by_cases hlt:k<l.length
  ·obtain⟨q,b,off,cap',Gu,dC,hc⟩:=Fy wU.O eX k hlt;cases dC;have hqm:q∈l:=by rw[←Gu];exact List.getElem_mem hlt
   have Uq:q.length≤9223372036854775807:=by have:=Fz.O q hqm;omega
   have Hqm:=Qh hqm;have mq:=Qh (show l.take (k+1)=l.take k++[q] by rw[List.take_succ_eq_append_getElem hlt,Gu]);clear Gu hqm;go_wp2_with fail
   refine(Xh4 q Uq _).mono ?_;rintro e w2 ⟨rfl,aL⟩;have bH:=hb.trans (aL.mono hb.size);clear aL;cases hq:comp q
   ·have Hn:=Qh (show aW s=7 by
     rw[KQ.O,if_neg];intro h;rw[List.all_eq_true.1 h q Hqm.O]at hq;exact absurd hq (by simp))
    clear hq;go_wp2;go_ret;exact⟨dZ Hn.O.symm,aG.trans (bH.mono aG.size)⟩
   ·have Hn:=Qh (show(l.take (k+1)).all comp=true by rw[mq.O,List.all_append,Hr.O];simp[hq]);clear hq;go_wp2;go_roundw;case rel=>exact⟨k+1,by omega,by go_num,Hn.O,bH⟩
    case measure=>simp[intOf];omega
  ·have Hn:=Qh (show aW s=0 by
    have:=Hr.O;rw[List.take_of_length_le (by omega)]at this;rw[KQ.O,if_pos this])
   go_wp2;go_ret;exact⟨dZ Hn.O.symm,aG.trans (hb.mono aG.size)⟩
def sj(s:af):List af×Int:=if aW s=0 then(els s,0)else([],aW s)
theorem RF(h:aW s=0):sj s=(els s,0):=by rw[sj,if_pos h]
theorem X4(h:aW s≠0):sj s=([],aW s):=by rw[sj,if_neg h]
theorem Xh3(I:IH)(s:af)(w:World)(hw:Ok I w):
 Calls Tryz.prog 142 #[S s] w (Fx iE I w (sj s).1 (sj s).2):=by
 have Hc:=Qh (X0 I s w hw);by_cases h0:aW s=0
 ·have hs:=(Iu h0).1;rw[h0]at Hc;have zJ:=Qh (RF h0);clear h0;go_enter Tryz.func142,Tryz.ntmps142
  go_wp2_with fail
  refine Hc.O.mono ?_;rintro e w1 ⟨rfl,aG⟩;have aO:Ok I w1:=hw.below (Qn _) aG;go_wp2_with fail
  refine(RD I s (by omega) _ aO).mono ?_;rintro e w2 ⟨v2,I2,rfl,aL,mK,bn,iN⟩;go_wp2;go_ret2;rw[zJ.O];exact⟨v2,I2,rfl,aG.trans (aL.mono aG.size),mK.mono aG.size,bn,iN⟩
 ·have zJ:=Qh (X4 h0);obtain⟨q,hq⟩:∃q,aW s=q:=⟨_,rfl⟩;have hn:(q !=0)=true:=by rw[←hq];simpa using h0
  rw[hq]at zJ Hc;clear hq h0;go_enter Tryz.func142,Tryz.ntmps142
  go_wp2_with fail
  refine Hc.O.mono ?_;rintro e w1 ⟨rfl,aG⟩;have aO:Ok I w1:=hw.below (Qn _) aG;go_wp2;go_ret2;rw[zJ.O];exact⟨_,I,rfl,aG,Ext.refl _ _,aO,aZ.nil _ _⟩
def qB(s:af):af×Int:=if aW s≠0 then([],aW s)else if s=[]then([],1)else(qA s,0)
theorem Xls(I:IH)(s:af)(w:World)(hw:Ok I w):
 Calls Tryz.prog 90 #[S s] w fun e w'=>e= .returned (.tuple #[S (qB s).1,.int .i64 (qB s).2])∧Below w.heap.size w w':=by
 by_cases h0:aW s=0
 ·have uy:=Qh (fun w hw=>by have:=Xh3 I s w hw;rw[RF h0]at this;exact this);have hs:=(Iu h0).1;have KR:=Qh (show qB s=if s=[]then([],1)else(qA s,0) by rw[qB,if_neg (by omega)]);have zw:(fT (els s)).length≤200:=by rw[XX];exact hs
  have uU:=Xta (s:=s);have eu:qA s=fT ((els s).take ((els s).length-1)):=by rw[qA,List.dropLast_eq_take]
  have Ur:=Qh (Xd1 (els s) ((els s).length-1));generalize els s=l at uy zw uU eu Ur;have Fz:=Qh uU;have Hup:=Qh eu;clear h0 uU eu;go_enter Tryz.func90,Tryz.ntmps90
  go_wp2_with fail
  refine(uy.O _ hw).mono ?_;rintro e w1 ⟨v1,I1,rfl,aG,iY,aO,je⟩;obtain⟨ao,cap,rfl,fu,iv,_⟩:=id je;have wU:=Qh je;clear je iY;have yc:maxLen=9223372036854775807:=rfl;by_cases vN:l.length=0
  ·have Hn:=Qh (show qB s=([],1) by rw[KR.O,if_pos (Fz.O.1 (List.eq_nil_of_length_eq_zero vN))]);have hz:((l.length:Int)==0)=true:=by rw[vN];rfl
   clear vN yc;go_wp2;go_ret2;rw[Hn.O];exact⟨rfl,aG⟩
  ·have Hn:=Qh (show qB s=(fT (l.take (l.length-1)),0) by
    rw[KR.O,if_neg (fun e=>vN (by rw[Fz.O.2 e];rfl)),Hup.O])
   have hz:((l.length:Int)==0)=false:=by rw[beq_eq_false_iff_ne];omega
   have hlp:1≤l.length:=by omega
   have hi:IntKind.i64.wrap ((l.length:Int)-1)=(l.length:Int)-1:=IntWalk.i64_in _ (by omega);have hj:(0:Int)≤(l.length:Int)-1:=by omega
   have Mh:(l.length:Int)-1≤(cap:Int):=by omega
   have hm:((l.length:Int)-1).toNat=l.length-1:=by omega
   have KS:=Qh (wU.O.Ex (n:=l.length-1) (by omega));have Hj2:=Qh (show(fT (l.take (l.length-1))).length≤4294967296 by have:=Ur.O;omega);clear vN yc;go_wp2_with fail
   refine(Xqj I1 _ _ KS.O Hj2.O _ aO).mono ?_;rintro e w2 ⟨rfl,aL⟩;go_wp2;go_ret2;rw[Hn.O];exact⟨rfl,aG.trans (aL.mono aG.size)⟩
 ·have uy:=Qh (fun w hw=>by have:=Xh3 I s w hw;rw[X4 h0]at this;exact this);obtain⟨q,hq⟩:∃q,aW s=q:=⟨_,rfl⟩;have hn:(q !=0)=true:=by rw[←hq];simpa using h0
  have KR:=Qh (show qB s=([],q) by rw[qB,if_pos h0,hq]);rw[hq]at uy;clear hq h0;go_enter Tryz.func90,Tryz.ntmps90
  go_wp2_with fail
  refine(uy.O _ hw).mono ?_;rintro e w1 ⟨v1,I1,rfl,aG,iY,aO,je⟩;obtain⟨ao,cap,rfl,fu,iv,_⟩:=id je;go_wp2;go_ret2;rw[KR.O];exact⟨rfl,aG⟩
theorem Xh7(l d:List af):d.isPrefixOf l=decide (l.take d.length=d):=by
 rw[Bool.eq_iff_iff,List.isPrefixOf_iff_prefix,decide_eq_true_iff,List.prefix_iff_eq_take];exact⟨fun h=>h.symm,fun h=>h.symm⟩
theorem Xgy{d:List af}(h:l.length<d.length):d.isPrefixOf l=false:=by
 cases hp:d.isPrefixOf l with
 |false=>rfl
 |true=>have:=(List.isPrefixOf_iff_prefix.1 hp).length_le;omega
theorem X7(I:IH)(p d:af)(w:World)(hw:Ok I w):
 Calls Tryz.prog 89 #[S p,S d] w fun e w'=>e= .returned (.bool (under p d))∧Below w.heap.size w w':=by
 have RG:=Qh (fun w hw=>X0 I p w hw);have Ey:=Qh (fun w hw=>X0 I d w hw);by_cases h0:aW p=0;case neg=>
  have Hu:=Qh (show under p d=false by rw[under,Qf h0];rfl);obtain⟨q,hq⟩:∃q,aW p=q:=⟨_,rfl⟩;have hn:(q !=0)=true:=by rw[←hq];simpa using h0
  rw[hq]at RG;clear hq h0;go_enter Tryz.func89,Tryz.ntmps89
  go_wp2_with fail
  refine(RG.O _ hw).mono ?_;rintro e w1 ⟨rfl,aG⟩;go_wp2;go_ret;exact⟨jr Hu.O.symm,aG⟩
 by_cases h1:aW d=0;case neg=>
  have Hu:=Qh (show under p d=false by rw[under,Qf h1,Bool.and_false];rfl);obtain⟨q,hq⟩:∃q,aW d=q:=⟨_,rfl⟩;have hn:(q !=0)=true:=by rw[←hq];simpa using h1
  rw[hq]at Ey;rw[h0]at RG;clear hq h1 h0;go_enter Tryz.func89,Tryz.ntmps89
  go_wp2_with fail
  refine(RG.O _ hw).mono ?_;rintro e w1 ⟨rfl,aG⟩;go_wp2_with fail
  refine(Ey.O _ (hw.below (Qn _) aG)).mono ?_;rintro e w2 ⟨rfl,aL⟩;go_wp2;go_ret;exact⟨jr Hu.O.symm,aG.trans (aL.mono aG.size)⟩
 have hp:=(Iu h0).1;have hd:=(Iu h1).1;have Hu:=Qh (show under p d=(els d).isPrefixOf (els p) by rw[under,Qt h0,Qt h1];rfl);have Nh:=Qh (fun I w hw=>RD I p (by omega) w hw);have Ni:=Qh (fun I w hw=>RD I d (by omega) w hw);rw[h0]at RG;rw[h1]at Ey;generalize els p=l at Hu Nh;generalize els d=m at Hu Ni;clear h0 h1;go_enter Tryz.func89,Tryz.ntmps89
 go_wp2_with fail
 refine(RG.O _ hw).mono ?_;rintro e w1 ⟨rfl,aG⟩;have aO:Ok I w1:=hw.below (Qn _) aG;go_wp2_with fail
 refine(Ey.O _ aO).mono ?_;rintro e w2 ⟨rfl,aL⟩;have bn:Ok I w2:=aO.below (Qn _) aL;have bH:=aG.trans (aL.mono aG.size);clear aG aL;go_wp2_with fail
 refine(Nh.O I _ bn).mono ?_;rintro e w3 ⟨v3,I3,rfl,dO,wB,fo,jK⟩;have jg:=bH.trans (dO.mono bH.size);have Ij:=Qh jK;clear jK dO;go_wp2_with fail
 refine(Ni.O I3 _ fo).mono ?_;rintro e w4 ⟨v4,I4,rfl,aS,pX,dz,Ai⟩;have cK:=jg.trans (aS.mono jg.size);have jK:=Ij.O.mono (pX.keep fo (Qn _));have hlen:=jK.bL;have Ez:=Ai.bL;obtain⟨ao,cap,rfl,fu,iv,_⟩:=id jK;obtain⟨qN,cap2,rfl,rG,tZ,_⟩:=id Ai;have Hl:=Qh jK;have Hm:=Qh Ai;clear jK Ai Ij aS pX wB fo bH jg;by_cases ol:m.length≤l.length;case neg=>
  have hn:decide (l.length<m.length)=true:=Qt (by omega);have OZ:=Qh (show under p d=false by rw[Hu.O];exact Xgy (by omega));go_wp2;go_ret;exact⟨jr OZ.O.symm,cK⟩
 have hn:decide (l.length<m.length)=false:=Qf (by omega);have OZ:=Qh (show under p d=decide (l.take m.length=m) by rw[Hu.O];exact Xh7 l m);have HB:=Qh cK;clear cK;go_wp2_with fail
 go_loopw [7] (fun s7 wr=> ∃k:Nat,k≤m.length∧s7= .int .i64 k∧l.take k=m.take k∧Below w4.heap.size w4 wr) (fun i _=>m.length-(intOf i).toNat)
 case atStart=>exact⟨0,Nat.zero_le _,rfl,rfl,Qb _ _⟩
 case round=>
  obtain⟨k,hk,rfl,hr,hb⟩:=hrel;have Hr:=Qh hr;clear hr;have eX:Ok I4 wr:=dz.below (Qn _) hb;by_cases hlt:k<m.length
  ·obtain⟨x,b,off,cap',cB,dC,ni⟩:=Fy Hl.O eX k (by omega);cases dC;obtain⟨y,b',off',sN,kK,dC,Gv⟩:=Fy Hm.O eX k hlt;cases dC;have pM:=Qh cB;have KD:=Qh kK;have kg:k<l.length:=by omega
   have g0:=cell_regrown ni;have g1:=cell_regrown Gv;clear cB kK;by_cases Km:x=y
   ·have f1:(x !=y)=false:=by simp[Km]
    have f2:(x==y)=true:=by simp[Km]
    have Hn:=Qh (show l.take (k+1)=m.take (k+1) by rw[List.take_succ_eq_append_getElem kg,List.take_succ_eq_append_getElem hlt,Hr.O,pM.O,KD.O,Km]);clear Km;go_wp2_with fail
    refine wp_region_quiet_below (by kernel_rfl) (by kernel_rfl) ?_;repeat(go_big_quiet_step ((fail)))
    refine wpQuiet_nil ?_;intro w5 bJ;have df:Below (wr).heap.size (wr) w5:=by
     obtain⟨pq,rfl⟩:=bJ;exact below_regrown _ _ _
    clear bJ;go_wp2;go_roundw;case rel=>exact⟨k+1,by omega,by go_num,Hn.O,hb.trans (df.mono hb.size)⟩
    case measure=>simp[intOf];omega
   ·have f1:(x !=y)=true:=by simpa using Km
    have f2:(x==y)=false:=by simpa using Km
    have Hn:=Qh (show under p d=false by
     rw[OZ.O,Qf];intro h;apply Km;rw[←pM.O,←KD.O];have:=congrArg (fun z=>z[k]?) h;simp only[List.getElem?_take_of_lt hlt]at this;rw[List.getElem?_eq_getElem kg,List.getElem?_eq_getElem hlt]at this;exact Option.some.inj this)
    clear Km;go_wp2_with fail
    refine wp_region_quiet_below (by kernel_rfl) (by kernel_rfl) ?_;repeat(go_big_quiet_step ((fail)))
    refine wpQuiet_nil ?_;intro w5 bJ;have df:Below (wr).heap.size (wr) w5:=by
     obtain⟨pq,rfl⟩:=bJ;exact below_regrown _ _ _
    clear bJ;go_wp2;go_ret;exact⟨jr Hn.O.symm,HB.O.trans ((hb.trans (df.mono hb.size)).mono HB.O.size)⟩
  ·have Hn:=Qh (show under p d=true by
    have:=Hr.O;rw[show k=m.length by omega,List.take_of_length_le (l:=m) (Qn _)]at this;rw[OZ.O,Qt this])
   go_wp2;go_ret;exact⟨jr Hn.O.symm,HB.O.trans (hb.mono HB.O.size)⟩
theorem X8(I:IH)(p d:af)(hp:p.length≤4294967280)(hd:d.length≤4294967280)(w:World)(hw:Ok I w):
 Calls Tryz.prog 92 #[S p,S d] w fun e w'=>e= .returned (.int .i64 (jQ p d))∧Below w.heap.size w w':=by
 have Hu:=Qh (Xtj p d);have Nh:=Qh (fun I w hw=>RD I p hp w hw);have Ni:=Qh (fun I w hw=>RD I d hd w hw);generalize els p=l at Hu Nh;generalize els d=m at Hu Ni;go_enter Tryz.func92,Tryz.ntmps92
 go_wp2_with fail
 refine(Nh.O I _ hw).mono ?_;rintro e w3 ⟨v3,I3,rfl,dO,wB,fo,jK⟩;have Ij:=Qh jK;clear jK;go_wp2_with fail
 refine(Ni.O I3 _ fo).mono ?_;rintro e w4 ⟨v4,I4,rfl,aS,pX,dz,Ai⟩;have HB:=Qh (dO.trans (aS.mono dO.size));have jK:=Ij.O.mono (pX.keep fo (Qn _));have hlen:=jK.bL;have Ez:=Ai.bL;obtain⟨ao,cap,rfl,fu,iv,_⟩:=id jK;obtain⟨qN,cap2,rfl,rG,tZ,_⟩:=id Ai;have Hl:=Qh jK;have Hm:=Qh Ai;clear jK Ai Ij aS pX wB fo dO;go_wp2_with fail
 go_loopw [7] (fun s7 wr=> ∃k:Nat,k≤l.length∧k≤m.length∧s7= .int .i64 k∧l.take k=m.take k∧Below w4.heap.size w4 wr) (fun i _=>m.length-(intOf i).toNat)
 case atStart=>exact⟨0,Nat.zero_le _,Nat.zero_le _,rfl,rfl,Qb _ _⟩
 case round=>
  obtain⟨k,hk,uV,rfl,hr,hb⟩:=hrel;have Hr:=Qh hr;have Ey:=Qh (Xm1 hr hk uV);clear hr;have eX:Ok I4 wr:=dz.below (Qn _) hb;by_cases hlt:k<l.length;case neg=>
   have Us:=Qh (show l.drop k=[]from List.drop_of_length_le (by omega));by_cases kg:k<m.length
   ·have pF:decide (l.length<m.length)=true:=Qt (by omega);have Hn:=Qh (show jQ p d= -1 by rw[Hu.O,Ey.O,Us.O,List.drop_eq_getElem_cons kg];rfl);go_wp2;go_ret;exact⟨dZ Hn.O.symm,HB.O.trans (hb.mono HB.O.size)⟩
   ·have pF:decide (l.length<m.length)=false:=Qf (by omega);have uS:decide (m.length<l.length)=false:=Qf (by omega);have Hn:=Qh (show jQ p d=0 by rw[Hu.O,Ey.O,Us.O,List.drop_of_length_le (by omega)];rfl);go_wp2;go_ret;exact⟨dZ Hn.O.symm,HB.O.trans (hb.mono HB.O.size)⟩
  by_cases kg:k<m.length;case neg=>
   have pF:decide (l.length<m.length)=false:=Qf (by omega);have uS:decide (m.length<l.length)=true:=Qt (by omega);have Hn:=Qh (show jQ p d=1 by rw[Hu.O,Ey.O,List.drop_of_length_le (l:=m) (by omega),List.drop_eq_getElem_cons hlt];rfl);go_wp2;go_ret;exact⟨dZ Hn.O.symm,HB.O.trans (hb.mono HB.O.size)⟩
  obtain⟨x,b,off,cap',cB,dC,ni⟩:=Fy Hl.O eX k hlt;cases dC;obtain⟨y,b',off',sN,kK,dC,Gv⟩:=Fy Hm.O eX k kg;cases dC;have Iw:=Qh (show jQ p d=cmpL (x::l.drop (k+1)) (y::m.drop (k+1)) by rw[Hu.O,Ey.O,List.drop_eq_getElem_cons hlt,List.drop_eq_getElem_cons kg,cB,kK]);have pM:=Qh cB;have KD:=Qh kK;have g0:=cell_regrown ni;have g1:=cell_regrown Gv;clear cB kK;rcases Rz x y with ht|ht|ht
  ·have Hn:=Qh (show jQ p d= -1 by rw[Iw.O];exact Xg3 ht _ _);go_wp2_with fail
   refine wp_region_quiet_below (by kernel_rfl) (by kernel_rfl) ?_;repeat(go_big_quiet_step ((fail)))
   refine wpQuiet_nil ?_;intro w5 bJ;have df:Below (wr).heap.size (wr) w5:=by
    obtain⟨pq,rfl⟩:=bJ;exact below_regrown _ _ _
   clear bJ;go_wp2;go_ret;exact⟨dZ Hn.O.symm,HB.O.trans ((hb.trans (df.mono hb.size)).mono HB.O.size)⟩
  ·have f1:Op.bytesLess x y=false:=by rw[ht];exact Iq _
   have f2:Op.bytesLess y x=false:=by rw[ht];exact Iq _
   have f3:(x==y)=true:=by simp[ht]
   have f4:(!(x==y))=false:=by simp[ht]
   have Hn:=Qh (show l.take (k+1)=m.take (k+1) by rw[List.take_succ_eq_append_getElem hlt,List.take_succ_eq_append_getElem kg,Hr.O,pM.O,KD.O,ht]);clear ht;go_wp2_with fail
   refine wp_region_quiet_below (by kernel_rfl) (by kernel_rfl) ?_;repeat(go_big_quiet_step ((fail)))
   refine wpQuiet_nil ?_;intro w5 bJ;have df:Below (wr).heap.size (wr) w5:=by
    obtain⟨pq,rfl⟩:=bJ;exact below_regrown _ _ _
   clear bJ;have eH:=hb.trans (df.mono hb.size);have iY:=aV df ni;have Kn:=aV df Gv;have g0:=cell_regrown iY;have g1:=cell_regrown Kn;clear df ni Gv;go_wp2_with fail
   refine wp_region_quiet_below (by kernel_rfl) (by kernel_rfl) ?_;repeat(go_big_quiet_step ((fail)))
   refine wpQuiet_nil ?_;intro w6 bJ;have gF:Below (w5).heap.size (w5) w6:=by
    obtain⟨pq,rfl⟩:=bJ;exact below_regrown _ _ _
   clear bJ;go_wp2;go_roundw;case rel=>exact⟨k+1,by omega,by omega,by go_num,Hn.O,eH.trans (gF.mono eH.size)⟩
   case measure=>simp[intOf];omega
  ·have f1:=RA ht;have f3:(x==y)=false:=by simpa using(RB ht).symm
   have f4:(!(x==y))=true:=by rw[f3];rfl
   have Hn:=Qh (show jQ p d=1 by rw[Iw.O];exact Xg4 ht _ _);go_wp2_with fail
   refine wp_region_quiet_below (by kernel_rfl) (by kernel_rfl) ?_;repeat(go_big_quiet_step ((fail)))
   refine wpQuiet_nil ?_;intro w5 bJ;have df:Below (wr).heap.size (wr) w5:=by
    obtain⟨pq,rfl⟩:=bJ;exact below_regrown _ _ _
   clear bJ;have eH:=hb.trans (df.mono hb.size);have iY:=aV df ni;have Kn:=aV df Gv;have g0:=cell_regrown iY;have g1:=cell_regrown Kn;clear df ni Gv;go_wp2_with fail
   refine wp_region_quiet_below (by kernel_rfl) (by kernel_rfl) ?_;repeat(go_big_quiet_step ((fail)))
   refine wpQuiet_nil ?_;intro w6 bJ;have gF:Below (w5).heap.size (w5) w6:=by
    obtain⟨pq,rfl⟩:=bJ;exact below_regrown _ _ _
   clear bJ;go_wp2;go_ret;exact⟨dZ Hn.O.symm,HB.O.trans ((eH.trans (gF.mono eH.size)).mono HB.O.size)⟩
