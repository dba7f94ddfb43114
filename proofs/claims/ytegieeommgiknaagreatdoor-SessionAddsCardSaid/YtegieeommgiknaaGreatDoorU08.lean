/- Lemmas for the claim's theorem;conditions: as each says. -/
import Derived.Test.YtegieeommgiknaaGreatDoorU07
set_option maxHeartbeats 0
set_option maxRecDepth 100000
set_option linter.all false
namespace Go.Proofs.YtegieeommgiknaaGreatDoor
open Go.RowKit Go.Lib
variable{t:List bD}{p:af}
theorem IE{T e:TypeId}{B b:Nat}{bs:List Value}{w w':World}(h:Lib.IsBuilder T e B b bs w)(hb:Below w.heap.size w w'):Lib.IsBuilder T e B b bs w':=by
 have key:∀p,Lib.BuilderAt T e B b p bs w→Lib.BuilderAt T e B b p bs w':=fun p h=>by
  have hlt:=h.lt;obtain⟨hB,v,hv,bU,bq⟩:=h;refine⟨hB,v,(hb.block b hlt).trans hv,bU.kept (row:=none) ⟨hb.os,hb.tape,hb.output,hb.size,fun k hk _=>hb.block k hk⟩ ?_,bq⟩;cases v.ownBlock<;>simp
 rcases h with h|h
 ·exact .inl (key _ h)
 ·exact .inr (key _ h)
theorem RQ(I:IH)(hI:fG I)(s:af)(hs:s.length≤140737488355200)(w:World)(hw:Ok I w):
 Calls Tryz.prog 103 #[S s] w fun e w'=>e= .returned (S (fA s))∧Below w.heap.size w w':=by
 have Od:=RP s.length (by omega);go_enter Tryz.func103,Tryz.ntmps103
 go_wp2_with fail
 refine(Xki I hI _ _ hw (by omega) (by omega)).mono ?_;rintro e w1 ⟨rfl,aG⟩;go_wp2;go_ret;exact⟨OU (by simp[fA]),aG⟩
theorem UJ(I:IH)(hI:fG I)(n:Nat)(hn:n≤140737488355200)(w:World)(hw:Ok I w):
 Calls Tryz.prog 102 #[.int .i64 n] w fun e w'=>e= .returned (S (gm n))∧Below w.heap.size w w':=by
 have Od:=RP n (by omega);go_enter Tryz.func102,Tryz.ntmps102
 go_wp2_with fail
 refine(Xki I hI _ _ hw (by omega) (by omega)).mono ?_;rintro e w1 ⟨rfl,aG⟩;go_wp2;go_ret;exact⟨rfl,aG⟩
def xH(w:World)(b off:Nat)(l:List af):Prop:=∀(j:Nat) x,l[j]?=some x→w.cell? ⟨b,off+j,none⟩=some (S x)
theorem Xjf(W:World)(l:List af)(T:TypeId):xH (W.alloc (.cells (l.map fun s=>S s).toArray T)) W.heap.size 0 l:=fun j x hx=>by
 rw[cell_of_row _ W.heap.size _ _ _ _ (heap_alloc_new W _),Nat.zero_add,List.getElem?_toArray,List.getElem?_map,hx];rfl
theorem Xib(I:IH)(hI:fG I)(b off cap n:Nat)(l:List af)(Kt:l.length=n)(fu:l.length≤cap)(iv:cap≤maxLen)(w:World)(hv:xH w b off l)(hs:(jv l).length≤140737488355200)(hw:Ok I w):
 Calls Tryz.prog 192 #[.slice (some ⟨b,off,none⟩) n cap] w fun e w'=>e= .returned (S (jv l))∧Below w.heap.size w w':=by
 subst Kt;have hlen:l.length≤9223372036854775807:=by unfold maxLen at iv;omega
 have Hv:=Qh hv;clear hv;have jN:Lib.IsBuilder 153 5 w.heap.size w.heap.size (Lib.byteCells (jv (l.take 0))) (w.alloc (.cells #[.pointer none,.slice none 0 0] 153)):=Lib.fresh_isBuilder _ _ w;have lM:=Qh jN;clear jN;go_enter Tryz.func192,Tryz.ntmps192
 go_wp2_with fail
 go_loopw [8] (fun s8 wr=> ∃k:Nat,k≤l.length∧s8= .int .i64 k∧Lib.IsBuilder 153 5 w.heap.size w.heap.size (Lib.byteCells (jv (l.take k))) wr∧Below w.heap.size w wr∧w.heap.size<wr.heap.size) (fun i _=>l.length-(intOf i).toNat)
 case atStart=>exact⟨0,Nat.zero_le _,rfl,lM.O,(Qb _ _).alloc (Qn _) _,by simp⟩
 case round=>
  obtain⟨k,hk,rfl,qx,hb,bS⟩:=hrel;have ww:=Qh qx;clear qx;have eX:Ok I wr:=hw.below (Qn _) hb;by_cases hlt:k<l.length
  ·obtain⟨s,WT⟩:∃s,l[k]=s:=⟨_,rfl⟩;have hc:wr.cell? ⟨b,off+k,none⟩=some (S s):=aV hb (Hv.O k s (by rw[List.getElem?_eq_getElem hlt,WT]));have mq:=Qh (show jv (l.take (k+1))=jv (l.take k)++fA s by rw[List.take_succ_eq_append_getElem hlt,Xg0,WT];simp[jv]);have uw:=Qh (show jv l=jv (l.take (k+1))++jv (l.drop (k+1)) by rw[←Xg0,List.take_append_drop]);have iw:(jv (l.take k)).length+(fA s).length≤140737488355200:=by
    rw[uw.O,mq.O]at hs;simp at hs;omega
   have Kv:s.length≤140737488355200:=by
    have:s.length≤(fA s).length:=by simp[fA];omega
    omega
   clear WT;go_wp2_with fail
   refine(RQ I hI s Kv _ eX).mono ?_;rintro e w1 ⟨rfl,aG⟩;have qC:=IE ww.O aG;have dJ:=aG.size;go_wp2_with fail
   refine(Tryz.Builder_WriteString w.heap.size w.heap.size _ _ _ qC (by rw[ByteArray.size_mk',List.size_toArray];simp[Lib.byteCells];omega) (by omega)).mono ?_;rintro e w2 ⟨rfl,oZ,aL⟩;have gJ:=oZ.lt;have IG:Hid (Lib.IsBuilder 153 5 w.heap.size w.heap.size (Lib.byteCells (jv (l.take (k+1)))) w2):=Qh (.inr (by
    have:=oZ;rw[Lib.strCells_toArray,Lib.byteCells,Lib.byteCells,←List.map_append,←mq.O]at this;exact this))
   clear qC oZ;go_wp2;go_roundw;case rel=>exact⟨k+1,by omega,by go_num,IG.O,(hb.trans (aG.mono (Nat.le_of_lt bS))).trans aL,by omega⟩
   case measure=>simp[intOf];omega
  ·have mJ:l.take k=l:=List.take_of_length_le (by omega);rw[mJ]at ww;clear mJ;go_wp2_with fail
   refine(Tryz.Builder_String_any w.heap.size w.heap.size _ _ ww.O (Nat.le_of_lt bS)).mono ?_;rintro e w1 ⟨rfl,aG⟩;go_wp2;go_ret;exact⟨rfl,hb.trans aG⟩
def FH:af:=[48,49,50,51,52,53,54,55,56,57]
theorem Xld(u:Nat)(h:u<10):(FH.drop u).take (u+1-u)=decDigits u:=by
 rw[decDigits_one h];match u,h with
 |0,_=>rfl
 |1,_=>rfl
 |2,_=>rfl
 |3,_=>rfl
 |4,_=>rfl
 |5,_=>rfl
 |6,_=>rfl
 |7,_=>rfl
 |8,_=>rfl
 |9,_=>rfl
theorem Xkw{n:Nat}(h:¬n<10):decDigits n=decDigits (n / 10)++decDigits (n%10):=by
 rw[decDigits_one (i:=n%10) (by omega),decDigits.eq_def n,dif_neg h]
theorem Xlw(u:Nat)(hu:u<18446744073709551616):∀w:World,Calls Tryz.prog 194 #[.int .u64 u] w fun e w'=>e= .returned (S (decDigits u))∧Below w.heap.size w w':=by
 induction u using Nat.strongRecOn with
 |ind u ih=>
  intro w;have yT:(decDigits u).length≤20:=by rw[decDigits_length];exact Xjn _ _ (by omega) (by omega)
  by_cases h:u<10
  ·have Ht:=Qh (Xld u h);clear ih yT;go_enter Tryz.func194,Tryz.ntmps194
   go_wp2;go_ret;exact⟨OU (by have h:=Ht.O;rwa[show u+1-u=1 by omega]at h),Qb _ _⟩
  ·have Hd:=Qh (Xkw h);have WU:=ih (u / 10) (by omega) (by omega);have Ml:=ih (u%10) (by omega) (by omega);have DZ:(decDigits (u / 10)).length+(decDigits (u%10)).length≤20:=by rw[Hd.O,List.length_append]at yT;exact yT
   have UK:=Qh WU;have UL:=Qh Ml;rw[show((u / 10:Nat):Int)=(u:Int) / 10 by omega]at UK;rw[show((u%10:Nat):Int)=(u:Int)%10 by omega]at UL;clear ih WU Ml yT;go_enter Tryz.func194,Tryz.ntmps194
   go_wp2_with fail
   refine(UK.O _).mono ?_;rintro e w1 ⟨rfl,aG⟩;go_wp2_with fail
   refine(UL.O _).mono ?_;rintro e w2 ⟨rfl,aL⟩;go_wp2;go_ret;exact⟨OU Hd.O.symm,aG.trans (aL.mono aG.size)⟩
theorem Xlx(n:Nat)(hn:n≤9223372036854775807)(w:World):Calls Tryz.prog 152 #[.int .i64 n] w fun e w'=>e= .returned (S (itoa n))∧Below w.heap.size w w':=by
 have Hi:=Qh (show itoa (n:Int)=decDigits n by simp[itoa]);have hw:IntKind.u64.wrap (n:Int)=n:=IntWalk.u64_in _ (by omega);go_enter Tryz.func152,Tryz.ntmps152
 go_wp2_with fail
 refine(Xlw n (by omega) _).mono ?_;rintro e w1 ⟨rfl,aG⟩;go_wp2;go_ret;exact⟨OU Hi.O.symm,aG⟩
theorem Lb(s:af)(hs:s.length≤140737488355200)(w:World):
 Calls Tryz.prog 107 #[S s] w fun e w'=>e= .returned (S (fA s))∧Below w.heap.size w w':=by
 have Od:=RP s.length (by omega);go_enter Tryz.func107,Tryz.ntmps107
 go_wp2_with fail
 refine(Xlx _ (by omega) _).mono ?_;rintro e w1 ⟨rfl,aG⟩;go_wp2;go_ret;exact⟨OU (by simp[fA]),aG⟩
theorem UM(n:Nat)(hn:n≤140737488355200)(w:World):
 Calls Tryz.prog 106 #[.int .i64 n] w fun e w'=>e= .returned (S (gm n))∧Below w.heap.size w w':=by
 have Od:=RP n (by omega);go_enter Tryz.func106,Tryz.ntmps106
 go_wp2_with fail
 refine(Xlx n (by omega) _).mono ?_;rintro e w1 ⟨rfl,aG⟩;go_wp2;go_ret;exact⟨rfl,aG⟩
open Go.RowKit
def gY(e:bD):Int:=
 if e.size<0∨65536<e.size∨(e.av≠1∧e.size≠0)then 2
 else if(e.av=1∧e.aD.length≠32)∨(e.av≠1∧e.aD≠[])then 1
 else if dL (e.av==1) e.aC≠0 then dL (e.av==1) e.aC
 else if jG e.aC≠e.size then 1 else 0
theorem Xnd(l:List Xt)(k:Nat):jG l=jG (l.take k)+jG (l.drop k):=by
 conv=>lhs;rw[←List.take_append_drop k l]
 simp only[jG,List.map_append,List.sum_append]
theorem Xtz{l:List Xt}(h:∀x∈l,dQ x=false):0≤jG l:=(Xok l.length l rfl h).1
theorem Xqy(I:IH)(x:bD)(va vx:Value)(gK:aZ nk I va x.ag)(kw:aZ mU I vx x.aC)(lQ:x.Wf)(w:World)(hw:Ok I w):
 Calls Tryz.prog 117 #[iF x va vx] w fun e w'=>e= .returned (.int .i64 (gY x))∧Below w.heap.size w w':=by
 have cB:=kw.bL;obtain⟨ao,cap,rfl,fu,iv,_⟩:=id kw;obtain⟨qN,cap2,rfl,_,_,_⟩:=id gK;have Nk:=Qh kw;have ky:=lQ.s0;have uX:=lQ.s1;have pF:=lQ.aD;clear kw gK lQ;have Eg:bP (w.alloc (.cells #[.int .i64 x.av,S x.aj,.slice qN x.ag.length cap2,S x.target,.int .i64 x.size,S x.aD,.slice ao x.aC.length cap] 63)) w.heap.size x (.slice qN x.ag.length cap2) (.slice ao x.aC.length cap):=dP rfl (Qb _ _);have Ta:=Qh Eg;clear Eg;by_cases E9:x.size<0;case pos=>
  have Hn:=Qh (show gY x=2 by rw[gY,if_pos (.inl E9)]);by_cases hf:x.av=1
  ·have f1:((x.av:Int)==1)=true:=by simpa using hf
   clear hf;go_enter Tryz.func117,Tryz.ntmps117
   go_wp2;go_ret;exact⟨dZ Hn.O.symm,(Qb _ _).alloc (Qn _) _⟩
  ·have f1:((x.av:Int)==1)=false:=by simpa using hf
   clear hf;go_enter Tryz.func117,Tryz.ntmps117
   go_wp2;go_ret;exact⟨dZ Hn.O.symm,(Qb _ _).alloc (Qn _) _⟩
 by_cases hf:x.av=1
 ·have f1:((x.av:Int)==1)=true:=by simpa using hf
  have f2:((x.av:Int) !=1)=false:=by simpa using hf
  by_cases ui:65536<x.size;case pos=>
   have Hn:=Qh (show gY x=2 by rw[gY,if_pos (.inr (.inl ui))]);clear hf;go_enter Tryz.func117,Tryz.ntmps117
   go_wp2;go_ret;exact⟨dZ Hn.O.symm,(Qb _ _).alloc (Qn _) _⟩
  by_cases Cw:x.aD.length=32;case neg=>
   have Hn:=Qh (show gY x=1 by rw[gY,if_neg (by omega),if_pos (.inl ⟨hf,Cw⟩)]);have z1:((x.aD.length:Int) !=32)=true:=by rw[bne_iff_ne];omega
   clear hf Cw;go_enter Tryz.func117,Tryz.ntmps117
   go_wp2;go_ret;exact⟨dZ Hn.O.symm,(Qb _ _).alloc (Qn _) _⟩
  have z1:((x.aD.length:Int) !=32)=false:=by rw[Cw];rfl
  have Hc:=Qh (show gY x=if dL true x.aC≠0 then dL true x.aC else if jG x.aC≠x.size then 1 else 0 by
   rw[gY,if_neg (by omega),if_neg (by
    rintro(⟨_,h⟩|⟨h,_⟩)
    ·exact h Cw
    ·exact h hf),f1])
  have Hfk:=Qh hf;clear hf Cw;go_enter Tryz.func117,Tryz.ntmps117
  go_wp2_with fail
  go_loopw [32] (fun Pf wr=> ∃k:Nat,k≤x.aC.length∧Pf= .int .i64 k∧dL true (x.aC.drop k)=dL true x.aC∧bP wr w.heap.size x (.slice qN x.ag.length cap2) (.slice ao x.aC.length cap)∧Below w.heap.size w wr∧w.heap.size<wr.heap.size) (fun i _=>x.aC.length-(intOf i).toNat)
  case atStart=>exact⟨0,Nat.zero_le _,rfl,rfl,Ta.O,(Qb _ _).alloc (Qn _) _,by simp⟩
  case round=>
   clear Ta;obtain⟨k,hk,rfl,hr,AC,hb,bS⟩:=hrel;have Hr:=Qh hr;clear hr;have HBw:=Qh AC;obtain⟨c0,c1,c2,c3,c4,c5,c6⟩:=AC;have eX:Ok I wr:=hw.below (Qn _) hb;by_cases hlt:k<x.aC.length
   ·obtain⟨y,b,off,cap',kK,dC,e0,e1,e2⟩:=vg Nk.O eX k hlt;cases dC;have O4:=Qh (show x.aC.drop k=y::x.aC.drop (k+1) by rw[List.drop_eq_getElem_cons hlt,kK]);have bI:=Qh (show gY x=if(if dQ y then 2 else dL true (x.aC.drop (k+1)))≠0 then(if dQ y then 2 else dL true (x.aC.drop (k+1)))else if jG x.aC≠x.size then 1 else 0 by
     rw[Hc.O,←Hr.O,O4.O,RH])
    clear kK;by_cases h1:y.s<0
    ·have lW:=Qh (show gY x=2 by rw[bI.O,if_pos (show dQ y=true by unfold dQ;simp;omega)];rfl);go_wp2;go_ret;exact⟨dZ lW.O.symm,hb.alloc hb.size _⟩
    by_cases h2:255<y.s
    ·have lW:=Qh (show gY x=2 by rw[bI.O,if_pos (show dQ y=true by unfold dQ;simp;omega)];rfl);go_wp2;go_ret;exact⟨dZ lW.O.symm,hb.alloc hb.size _⟩
    by_cases h5:y.n<1
    ·have lW:=Qh (show gY x=2 by rw[bI.O,if_pos (show dQ y=true by unfold dQ;simp;omega)];rfl);go_wp2;go_ret;exact⟨dZ lW.O.symm,hb.alloc hb.size _⟩
    by_cases h6:65536<y.n
    ·have lW:=Qh (show gY x=2 by rw[bI.O,if_pos (show dQ y=true by unfold dQ;simp;omega)];rfl);go_wp2;go_ret;exact⟨dZ lW.O.symm,hb.alloc hb.size _⟩
    by_cases h3:y.o<0
    ·have lW:=Qh (show gY x=2 by rw[bI.O,if_pos (show dQ y=true by unfold dQ;simp;omega)];rfl);go_wp2;go_ret;exact⟨dZ lW.O.symm,hb.alloc hb.size _⟩
    by_cases h4:2147483647<y.o
    ·have lW:=Qh (show gY x=2 by rw[bI.O,if_pos (show dQ y=true by unfold dQ;simp;omega)];rfl);go_wp2;go_ret;exact⟨dZ lW.O.symm,hb.alloc hb.size _⟩
    by_cases h7:y.s=0
    ·have g7:(y.s==0)=true:=by simpa using h7
     by_cases h8:y.o=0
     ·have g8:(y.o !=0)=false:=by simpa using h8
      have jq:=Qh (show dL true (x.aC.drop (k+1))=dL true x.aC by
       rw[←Hr.O,O4.O,RH,if_neg (show ¬dQ y=true by unfold dQ;simp;omega)])
      go_wp2;go_roundw;case rel=>exact⟨k+1,by omega,by go_num,jq.O,HBw.O.past _,hb.alloc hb.size _,by simp;omega⟩
      case measure=>simp[intOf];omega
     ·have g8:(y.o !=0)=true:=by simpa using h8
      have lW:=Qh (show gY x=2 by rw[bI.O,if_pos (show dQ y=true by unfold dQ;simp;omega)];rfl);go_wp2;go_ret;exact⟨dZ lW.O.symm,hb.alloc hb.size _⟩
    ·have g7:(y.s==0)=false:=by simpa using h7
     have jq:=Qh (show dL true (x.aC.drop (k+1))=dL true x.aC by
      rw[←Hr.O,O4.O,RH,if_neg (show ¬dQ y=true by unfold dQ;simp;omega)])
     go_wp2;go_roundw;case rel=>exact⟨k+1,by omega,by go_num,jq.O,HBw.O.past _,hb.alloc hb.size _,by simp;omega⟩
     case measure=>simp[intOf];omega
   ·have Gb:=Qh (show dL true x.aC=0 by rw[←Hr.O,List.drop_of_length_le (by omega)];rfl);have Nu:=Qh (Xhg _ Gb.O);have RS:=Qh (show gY x=if jG x.aC≠x.size then 1 else 0 by rw[Hc.O,Gb.O];rfl);go_wp2_with fail
    go_loopw [5,81] (fun s5 s81 wq=> ∃(j:Nat) (r:Int),j≤x.aC.length∧s81= .int .i64 j∧s5= .int .i64 r∧0≤r∧r≤65536∧r=x.size-jG (x.aC.take j)∧Below w.heap.size w wq) (fun _ i _=>x.aC.length-(intOf i).toNat)
    case atStart=>exact⟨0,x.size,Nat.zero_le _,rfl,rfl,by omega,by omega,by simp[jG],hb⟩
    case round=>
     clear c0 c1 c2 c3 c4 c5 c6 eX hb;obtain⟨j,r,hj,rfl,rfl,Ay,mP,hrr,hb⟩:=hrel;have UN:=Qh hrr;clear hrr;have eX:Ok I wr:=hw.below (Qn _) hb;by_cases kg:j<x.aC.length
     ·obtain⟨y,b,off,cap',kK,dC,e0,e1,e2⟩:=vg Nk.O eX j kg;cases dC;have hym:dQ y=false:=Nu.O y (by rw[←kK];exact List.getElem_mem kg);have hyl:=Xhi hym;have mq:=Qh (show jG (x.aC.take (j+1))=jG (x.aC.take j)+y.n by rw[List.take_succ_eq_append_getElem kg,kK,Xge]);clear kK hym;by_cases Gx:r<y.n
      ·have Hn:=Qh (show gY x=1 by
        rw[RS.O,if_pos];have h1:=Xnd x.aC (j+1);have h2:=Xtz (l:=x.aC.drop (j+1)) fun z hz=>Nu.O z (List.mem_of_mem_drop hz);have h3:=mq.O;have h4:=UN.O;omega)
       go_wp2;go_ret;exact⟨dZ Hn.O.symm,hb.alloc hb.size _⟩
      ·have AJ:IntKind.i64.wrap (r-y.n)=r-y.n:=IntWalk.i64_in _ (by omega);go_wp2;go_roundw;case rel=>exact⟨j+1,r-y.n,by omega,by go_num,by go_num,by omega,by omega,(by have h3:=mq.O;have h4:=UN.O;omega),hb.alloc hb.size _⟩
       case measure=>simp[intOf];omega
     ·have au:x.aC.take j=x.aC:=List.take_of_length_le (by omega);rw[au]at UN;clear au;by_cases hz:r=0
      ·have z0:(r !=0)=false:=by simpa using hz
       have Hn:=Qh (show gY x=0 by rw[RS.O,if_neg];have:=UN.O;omega);clear hz;go_wp2;go_ret;exact⟨dZ Hn.O.symm,hb⟩
      ·have z0:(r !=0)=true:=by simpa using hz
       have Hn:=Qh (show gY x=1 by rw[RS.O,if_pos];have:=UN.O;omega);clear hz;go_wp2;go_ret;exact⟨dZ Hn.O.symm,hb⟩
 ·have f1:((x.av:Int)==1)=false:=by simpa using hf
  have f2:((x.av:Int) !=1)=true:=by simpa using hf
  by_cases hz:x.size=0;case neg=>
   have Hn:=Qh (show gY x=2 by rw[gY,if_pos (.inr (.inr ⟨hf,hz⟩))]);have Gx:0<x.size:=by omega
   clear hf hz;go_enter Tryz.func117,Tryz.ntmps117
   go_wp2;go_ret;exact⟨dZ Hn.O.symm,(Qb _ _).alloc (Qn _) _⟩
  have dJ:x.size≤0:=by omega
  by_cases Cw:x.aD.length=0;case neg=>
   have Hn:=Qh (show gY x=1 by rw[gY,if_neg (by omega),if_pos (.inr ⟨hf,fun e=>Cw (by rw[e];rfl)⟩)]);have z1:((x.aD.length:Int) !=0)=true:=by rw[bne_iff_ne];omega
   clear hf Cw;go_enter Tryz.func117,Tryz.ntmps117
   go_wp2;go_ret;exact⟨dZ Hn.O.symm,(Qb _ _).alloc (Qn _) _⟩
  have z1:((x.aD.length:Int) !=0)=false:=by rw[Cw];rfl
  have Hc:=Qh (show gY x=if dL false x.aC≠0 then dL false x.aC else if jG x.aC≠x.size then 1 else 0 by
   rw[gY,if_neg (by omega),if_neg (by
    rintro(⟨h,_⟩|⟨_,h⟩)
    ·exact hf h
    ·exact h (List.eq_nil_of_length_eq_zero Cw)),f1])
  have Hz:=Qh hz;clear hf Cw hz;by_cases vN:0<x.aC.length
  ·obtain⟨y,b,off,cap',kK,dC,e0,e1,e2⟩:=vg Nk.O (hw.alloc (.cells #[.int .i64 x.av,S x.aj,.slice qN x.ag.length cap2,S x.target,.int .i64 x.size,S x.aD,.slice ao x.aC.length cap] 63)) 0 vN;cases dC;have QM:x.aC=y::x.aC.drop 1:=by rw[←kK,←List.drop_eq_getElem_cons vN];rfl
   have Hn:=Qh (show gY x=1 by rw[Hc.O,QM];rfl);rw[Nat.zero_mul,Nat.add_zero]at e0 e1 e2;clear kK QM;go_enter Tryz.func117,Tryz.ntmps117
   go_wp2_with fail
   go_loopw [32] (fun Pf wr=>Pf= .int .i64 0∧w.alloc (.cells #[.int .i64 x.av,S x.aj,.slice qN x.ag.length cap2,S x.target,.int .i64 x.size,S x.aD,.slice (some ⟨b,off,none⟩) x.aC.length cap] 63)=wr) (fun _ _=>0)
   case atStart=>exact⟨rfl,rfl⟩
   case round=>
    obtain⟨rfl,eX⟩:=hrel;subst eX;go_wp2;go_ret;exact⟨dZ Hn.O.symm,((Qb _ _).alloc (Qn _) _).alloc (by simp) _⟩
  ·have Gb:=Qh (show x.aC=[]from List.eq_nil_of_length_eq_zero (by omega));have Hn:=Qh (show gY x=0 by rw[Hc.O,Gb.O,Hz.O];rfl);have z0:(x.size !=0)=false:=by rw[Hz.O];rfl
   go_enter Tryz.func117,Tryz.ntmps117
   go_wp2_with fail
   go_loopw [32] (fun Pf wr=>Pf= .int .i64 0∧w.alloc (.cells #[.int .i64 x.av,S x.aj,.slice qN x.ag.length cap2,S x.target,.int .i64 x.size,S x.aD,.slice ao x.aC.length cap] 63)=wr) (fun _ _=>0)
   case atStart=>exact⟨rfl,rfl⟩
   case round=>
    obtain⟨rfl,eX⟩:=hrel;subst eX;go_wp2_with fail
    go_loopw [5,81] (fun s5 s81 wr=>s5= .int .i64 x.size∧s81= .int .i64 0∧w.alloc (.cells #[.int .i64 x.av,S x.aj,.slice qN x.ag.length cap2,S x.target,.int .i64 x.size,S x.aD,.slice ao x.aC.length cap] 63)=wr) (fun _ _ _=>0)
    case atStart=>exact⟨rfl,rfl,rfl⟩
    case round=>
     obtain⟨rfl,rfl,eX⟩:=hrel;subst eX;go_wp2;go_ret;exact⟨dZ Hn.O.symm,(Qb _ _).alloc (Qn _) _⟩
theorem Xff(e:bD):aX e=
 if e.av<1∨6<e.av then 10
 else if aW e.aj≠0 then aW e.aj
 else if e.aj=[]∧e.av<5 then 1
 else if oP e.ag≠0 then oP e.ag
 else if(e.ag≠[]∧3<e.av)∨dx e=false then 1 else gY e:=rfl
theorem Yp(I:IH)(hI:fG I)(x:bD)(va vx:Value)(gK:aZ nk I va x.ag)(kw:aZ mU I vx x.aC)(lQ:x.Wf)(qp:x.aj.length≤4294967280)(zu:x.target.length≤4294967280)(w:World)(hw:Ok I w):
 Calls Tryz.prog 61 #[iF x va vx] w fun e w'=>e= .returned (.int .i64 (aX x))∧Below w.heap.size w w':=by
 have cB:=kw.bL;have Zp:=gK.bL;have Hct:=Qh (fun w hw=>Xqy I x va vx gK kw lQ w hw);have O3:=Qh (fun w hw=>Xs7 I hI x zu va vx w hw);obtain⟨ao,cap,rfl,fu,iv,_⟩:=id kw;obtain⟨qN,cap2,rfl,rG,tZ,_⟩:=id gK;have Uu:=Qh gK;clear kw gK;have FC:=Qh (fun w hw=>Xo6 I hI x.aj qp w hw);have CS:=Qh (fun w hw=>Xvg I _ x.ag Uu.O lQ.ag w hw);have ky:=lQ.s0;have uX:=lQ.s1;have D6:=lQ.k0;have ql:=lQ.k1;have pF:=lQ.aD;clear lQ;by_cases oh:x.av<1;case pos=>
  have Hn:=Qh (show aX x=10 by rw[Xff,if_pos (.inl oh)]);go_enter Tryz.func61,Tryz.ntmps61
  go_wp2;go_ret;exact⟨dZ Hn.O.symm,(Qb _ _).alloc (Qn _) _⟩
 by_cases hkg:6<x.av;case pos=>
  have Hn:=Qh (show aX x=10 by rw[Xff,if_pos (.inr hkg)]);go_enter Tryz.func61,Tryz.ntmps61
  go_wp2;go_ret;exact⟨dZ Hn.O.symm,(Qb _ _).alloc (Qn _) _⟩
 have He:=Qh (show aX x=_ by rw[Xff,if_neg (show ¬(x.av<1∨6<x.av) by omega)]);by_cases FY:aW x.aj=0;case neg=>
  obtain⟨q,hq⟩:∃q,aW x.aj=q:=⟨_,rfl⟩;have hn:(q !=0)=true:=by rw[←hq];simpa using FY
  have Hn:=Qh (show aX x=q by rw[He.O,if_pos FY,hq]);rw[hq]at FC;clear hq FY;go_enter Tryz.func61,Tryz.ntmps61
  go_wp2_with fail
  refine(FC.O _ (hw.alloc _)).mono ?_;rintro e w1 ⟨rfl,aG⟩;have aM:Below w.heap.size w w1:=((Qb _ _).alloc (Qn _) _).trans (aG.mono (by simp));have dJ:w.heap.size<w1.heap.size:=by have:=aG.size;simp at this;omega
  have aO:Ok I w1:=(hw.alloc _).below (Qn _) aG;obtain⟨c0,c1,c2,c3,c4,c5,c6⟩:=dP rfl aG;clear aG;go_wp2;go_ret;exact⟨dZ Hn.O.symm,aM⟩
 replace He:=Qh (show aX x=_ by rw[He.O,if_neg (show ¬aW x.aj≠0 by omega)]);rw[FY]at FC;clear FY;by_cases Bt:x.aj=[]∧x.av<5;case pos=>
  have Hn:=Qh (show aX x=1 by rw[He.O,if_pos Bt]);obtain⟨p1,p2,p3,p4⟩:=EA Bt.1;have k5:((x.av:Int) !=5)=true:=by rw[bne_iff_ne];omega
  have k6:((x.av:Int) !=6)=true:=by rw[bne_iff_ne];omega
  have hk5:=Bt.2;clear Bt;go_enter Tryz.func61,Tryz.ntmps61
  go_wp2_with fail
  refine(FC.O _ (hw.alloc _)).mono ?_;rintro e w1 ⟨rfl,aG⟩;have aM:Below w.heap.size w w1:=((Qb _ _).alloc (Qn _) _).trans (aG.mono (by simp));have dJ:w.heap.size<w1.heap.size:=by have:=aG.size;simp at this;omega
  have aO:Ok I w1:=(hw.alloc _).below (Qn _) aG;obtain⟨c0,c1,c2,c3,c4,c5,c6⟩:=dP rfl aG;clear aG;go_wp2;go_ret;exact⟨dZ Hn.O.symm,aM⟩
 replace He:=Qh (show aX x=_ by rw[He.O,if_neg Bt]);have Cq:(((x.aj==[])=true∧x.aj.isEmpty=true∧(!x.aj.isEmpty)=false∧(x.aj !=[])=false)∧(x.av=5∨x.av=6))∨((x.aj==[])=false∧x.aj.isEmpty=false∧(!x.aj.isEmpty)=true∧(x.aj !=[])=true):=by
  by_cases h:x.aj=[]
  ·left;exact⟨EA h,by have:=Int.not_lt.1 fun h2=>Bt ⟨h,h2⟩;omega⟩
  ·right;exact Dh h
 clear Bt;go_enter Tryz.func61,Tryz.ntmps61
 go_wp2_with fail
 refine(FC.O _ (hw.alloc _)).mono ?_;rintro e w1 ⟨rfl,aG⟩;have aM:Below w.heap.size w w1:=((Qb _ _).alloc (Qn _) _).trans (aG.mono (by simp));have dJ:w.heap.size<w1.heap.size:=by have:=aG.size;simp at this;omega
 have aO:Ok I w1:=(hw.alloc _).below (Qn _) aG;obtain⟨c0,c1,c2,c3,c4,c5,c6⟩:=dP rfl aG;clear aG;clear FC;go_upto_region 6 with fail
 go_cut [31] (fun s31 wx=>s31= .bool false∧w1=wx)
 case first=>
  rcases Cq with⟨⟨p1,p2,p3,p4⟩,p5|p5⟩|⟨p1,p2,p3,p4⟩
  ·have k5:((x.av:Int) !=5)=false:=by rw[p5];rfl
   clear p5;go_wp2_with fail
   go_meet;exact⟨rfl,rfl⟩
  ·have k5:((x.av:Int) !=5)=true:=by rw[p5];rfl
   have k6:((x.av:Int) !=6)=false:=by rw[p5];rfl
   clear p5;go_wp2_with fail
   go_meet;exact⟨rfl,rfl⟩
  ·go_wp2_with fail
   go_meet;exact⟨rfl,rfl⟩
 case rest=>
  obtain⟨rfl,hcut⟩:=hcut;subst hcut;clear Cq;go_wp2_with fail
  refine(CS.O _ aO).mono ?_;rintro e w2 ⟨rfl,aL⟩;have bH:=aM.trans (aL.mono (Nat.le_of_lt dJ));have gJ:w.heap.size<w2.heap.size:=by have:=aL.size;omega
  have bn:Ok I w2:=aO.below (Qn _) aL;obtain⟨c0,c1,c2,c3,c4,c5,c6⟩:=bP.aR (⟨c0,c1,c2,c3,c4,c5,c6⟩:bP w1 w.heap.size x _ _) aL;clear aL aM dJ aO;by_cases yz:oP x.ag=0;case neg=>
   obtain⟨q,hq⟩:∃q,oP x.ag=q:=⟨_,rfl⟩;have hn:(q !=0)=true:=by rw[←hq];simpa using yz
   have Hn:=Qh (show aX x=q by rw[He.O,if_pos yz,hq]);rw[hq];clear hq yz;go_wp2;go_ret;exact⟨dZ Hn.O.symm,bH⟩
  replace He:=Qh (show aX x=_ by rw[He.O,if_neg (show ¬oP x.ag≠0 by omega)]);rw[yz];clear yz CS;go_upto_region 11 with fail
  go_cut [51] (fun s51 wx=> ∃w3,w3=wx∧(s51= .bool true∧aX x=1∨s51= .bool false∧ ¬((x.ag≠[]∧3<x.av)∨dx x=false))∧Below w2.heap.size w2 w3)
  case first=>
   have qw:x.ag.length<1∨(0<x.ag.length∧3<x.av)∨(0<x.ag.length∧x.av≤3):=by omega
   rcases qw with ha|⟨ha,sJ⟩|⟨ha,sJ⟩
   ·have d0:decide (0<x.ag.length)=false:=Qf (by omega);have EC:=Qh (show x.ag=[]from List.eq_nil_of_length_eq_zero (by omega));go_wp2_with fail
    refine(O3.O _ bn).mono ?_;rintro e w3 ⟨rfl,dO⟩;cases Di:dx x
    ·have Hn:=Qh (show aX x=1 by rw[He.O,if_pos (.inr Di)]);clear Di;go_wp2_with fail
     go_meet;exact⟨_,rfl,.inl ⟨rfl,Hn.O⟩,dO⟩
    ·go_wp2_with fail
     go_meet;refine⟨_,rfl,.inr ⟨(by first|rfl|(congr 1;exact Qf (by omega))),?_⟩,dO⟩;rintro(⟨h1,h2⟩|h1)
     ·first
       |exact h1 EC.O
       |omega
     ·rw[Di]at h1;exact absurd h1 (by simp)
   ·have d0:decide (0<x.ag.length)=true:=Qt ha;have Hn:=Qh (show aX x=1 by rw[He.O,if_pos (.inl ⟨by intro e;rw[e]at ha;simp at ha,sJ⟩)]);go_wp2_with fail
    go_meet;exact⟨_,rfl,.inl ⟨(by first|rfl|(congr 1;exact Qt (by omega))),Hn.O⟩,Qb _ _⟩
   ·have d0:decide (0<x.ag.length)=true:=Qt ha;go_wp2_with fail
    refine(O3.O _ bn).mono ?_;rintro e w3 ⟨rfl,dO⟩;cases Di:dx x
    ·have Hn:=Qh (show aX x=1 by rw[He.O,if_pos (.inr Di)]);clear Di;go_wp2_with fail
     go_meet;exact⟨_,rfl,.inl ⟨rfl,Hn.O⟩,dO⟩
    ·go_wp2_with fail
     go_meet;refine⟨_,rfl,.inr ⟨(by first|rfl|(congr 1;exact Qf (by omega))),?_⟩,dO⟩;rintro(⟨h1,h2⟩|h1)
     ·first
       |exact h1 EC.O
       |omega
     ·rw[Di]at h1;exact absurd h1 (by simp)
  case rest=>
   obtain⟨w3,uW,uB,dO⟩:=hcut;subst uW;have jg:=bH.trans (dO.mono (Nat.le_of_lt gJ));have fo:Ok I w3:=bn.below (Qn _) dO;obtain⟨c0,c1,c2,c3,c4,c5,c6⟩:=bP.aR (⟨c0,c1,c2,c3,c4,c5,c6⟩:bP w2 w.heap.size x _ _) dO;clear dO bH gJ bn O3;rcases uB with⟨rfl,hn⟩|⟨rfl,uB⟩
   ·have Hn:=Qh hn;clear hn;go_wp2;go_ret;exact⟨dZ Hn.O.symm,jg⟩
   have Hn:=Qh (show aX x=gY x by rw[He.O,if_neg uB]);clear uB;go_wp2_with fail
   refine(Hct.O _ fo).mono ?_;rintro e w4 ⟨rfl,aS⟩;go_wp2;go_ret;exact⟨dZ Hn.O.symm,jg.trans (aS.mono jg.size)⟩
def BG(g:Nat)(cb:Array Value)(l:List bD)(p:bD→Bool)(C:World→Prop):Prop:=
 ∀x∈l,∀(a1 a2:Option Addr) (c1 c2:Nat) (W:World),C W→Calls Tryz.prog g (#[iF x (.slice a1 x.ag.length c1) (.slice a2 x.aC.length c2)]++cb) W fun e w'=>e= .returned (.bool (p x))∧Below W.heap.size W w'
theorem Xfa(I:IH)(v:Value)(l:List bD)(hv:aZ bM I v l)(g:Nat)(cb:Array Value)(p:bD→Bool)(w:World)(hw:Ok I w)(eg:∀args w,(callFunc g args).run Tryz.prog w= .ok (.enter g args) w)(hp:BG g cb l p (Below w.heap.size w)):
 Calls Tryz.prog 118 #[v,.func (.func g) #[] cb] w fun e w'=>e= .returned (.int .i64 (su l p))∧Below w.heap.size w w':=by
 have hlen:=hv.bL;obtain⟨ao,cap,rfl,fu,iv,_⟩:=id hv;have Hv:=Qh hv;clear hv;have Hp:=Qh hp;clear hp;go_enter Tryz.func118,Tryz.ntmps118
 go_wp2_with fail
 go_loopw [8] (fun s8 wr=> ∃k:Nat,k≤l.length∧s8= .int .i64 k∧(l.take k).any p=false∧Below w.heap.size w wr) (fun i _=>l.length-(intOf i).toNat)
 case atStart=>exact⟨0,Nat.zero_le _,rfl,rfl,Qb _ _⟩
 case round=>
  obtain⟨k,hk,rfl,hr,hb⟩:=hrel;have Hr:=Qh hr;clear hr;by_cases hlt:k<l.length
  ·have eX:Ok I wr:=hw.below (Qn _) hb;obtain⟨x,va,vx,b,off,cap',cB,dC,⟨c0,c1,c2,c3,c4,c5,c6⟩,h1,h2⟩:=wD Hv.O eX k hlt;cases dC;obtain⟨aa,ca,rfl,_,_,_⟩:=id h1;obtain⟨ax,cx,rfl,_,_,_⟩:=id h2;have pM:=Qh cB;have oQ:=Qh (Hp.O x (by rw[←cB];exact List.getElem_mem hlt) aa ax ca cx wr hb);clear cB h1 h2;go_wp2_with fail
   refine oQ.O.mono ?_;rintro e w1 ⟨rfl,aG⟩;have aM:=hb.trans (aG.mono hb.size);clear aG oQ c0 c1 c2 c3 c4 c5 c6;cases hpx:p x
   ·have Hn:=Qh (show(l.take (k+1)).any p=false by rw[List.take_succ_eq_append_getElem hlt,List.any_append,Hr.O,pM.O];simp[hpx]);clear hpx;go_wp2;go_roundw;case rel=>exact⟨k+1,by omega,by go_num,Hn.O,aM⟩
    case measure=>simp[intOf];omega
   ·have Hn:=Qh (Xii (p:=p) hlt (by rw[pM.O];exact hpx) Hr.O);clear hpx;go_wp2;go_ret;exact⟨dZ Hn.O.symm,aM⟩
  ·have Hn:=Qh (show su l p= -1 from Xij (by have:=Hr.O;rwa[List.take_of_length_le (by omega)]at this));go_wp2;go_ret;exact⟨dZ Hn.O.symm,hb⟩
theorem Xu2(key:af)(b:Nat)(l:List bD)(w:World)(hc:w.cell? ⟨b,0,none⟩=some (S key)):BG 119 #[.pointer (some ⟨b,0,none⟩)] l (fun x=>x.aj==key) (Below w.heap.size w):=by
 intro x _ a1 a2 c1 c2 W hW;have QS:=aV hW hc;have rH:=kM (.cells #[.int .i64 x.av,S x.aj,.slice a1 x.ag.length c1,S x.target,.int .i64 x.size,S x.aD,.slice a2 x.aC.length c2] 63) QS;clear hc QS;go_enter Tryz.func119,Tryz.ntmps119
 go_wp2;go_ret;exact⟨rfl,(Qb _ _).alloc (Qn _) _⟩
abbrev uK(p:af):bD→Bool:=fun x=>x.aj==p
theorem Xte(I:IH)(v:Value)(t:List bD)(hv:aZ bM I v t)(p:af)(w:World)(hw:Ok I w):
 Calls Tryz.prog 62 #[v,S p] w fun e w'=>e= .returned (.int .i64 (su t (uK p)))∧Below w.heap.size w w':=by
 have Hp:=Qh (Xu2 p w.heap.size t (w.alloc (.cells #[S p] 9)) (by simp));have Hi:=Qh (Xfa I v t hv _ _ _ _ (hw.alloc _) (fun _ _=>by kernel_rfl) Hp.O);obtain⟨ao,cap,rfl,fu,iv,_⟩:=id hv;clear hv;obtain⟨q,hq⟩:∃q,su t (uK p)=q:=⟨_,rfl⟩;have Hq:=Qh hq;have UL:=Qh (Hi.O);clear Hi hq;rw[show(fun x:bD=>x.aj==p)=uK p from rfl,Hq.O]at UL;rw[Hq.O];go_enter Tryz.func62,Tryz.ntmps62
 go_wp2_with fail
 refine UL.O.mono ?_;rintro e w1 ⟨rfl,aG⟩;go_wp2;go_ret;exact⟨rfl,((Qb _ _).alloc (Qn _) _).trans (aG.mono (by simp))⟩
theorem Xmj{i:Nat}(hi:i<t.length)(hp:uK p t[i]=true)(hn:(t.take i).any (uK p)=false):mV t p=(t[i],true):=by
 have:gu t p=some t[i]:=by
  unfold gu;conv=>lhs;rw[←List.take_append_drop i t]
  rw[List.find?_append,List.drop_eq_getElem_cons hi,List.find?_cons];have h2:(t[i].aj==p)=true:=hp;rw[h2];have:(t.take i).find? (fun x=>x.aj==p)=none:=by
   rw[List.find?_eq_none];intro x hx hpx;rw[List.any_eq_true.2 ⟨x,hx,hpx⟩]at hn;exact absurd hn (by simp)
  rw[this];rfl
 rw[mV,this]
theorem Xmk(hn:t.any (uK p)=false):mV t p=(zeroE,false):=by
 have:gu t p=none:=by
  unfold gu;rw[List.find?_eq_none];intro x hx hpx;rw[List.any_eq_true.2 ⟨x,hx,hpx⟩]at hn;exact absurd hn (by simp)
 rw[mV,this]
theorem Xvs(I:IH)(v:Value)(t:List bD)(hv:aZ bM I v t)(p:af)(w:World)(hw:Ok I w):
 Calls Tryz.prog 73 #[v,S p] w (O5 I w (mV t p)):=by
 have hlen:=hv.bL;have Hf:=Qh (Xte I v t hv p (w.alloc (.cells cu 63)) (hw.alloc _));obtain⟨ao,cap,rfl,fu,iv,_⟩:=id hv;have Hv:=Qh hv;clear hv;have Au:(Tryz.prog.info? 63).map (·.size)=some 7:=by kernel_rfl
 have pg:=heap_alloc_new w (.cells cu 63);have Rl:=Qh pg;clear pg;rcases RJ t (uK p)with⟨i,hi,e1,e2,e3⟩|⟨e1,e2⟩
 ·have Hn:=Qh (Xmj hi e2 e3);rw[e1]at Hf;clear e1 e2 e3;go_enter Tryz.func73,Tryz.ntmps73
  go_wp2_with fail
  refine Hf.O.mono ?_;rintro e w1 ⟨rfl,aG⟩;have aO:Ok I w1:=(hw.alloc _).below (Qn _) aG;have bS:w.heap.size<w1.heap.size:=by have:=aG.size;simp at this;omega
  have Hz:=Qh ((aG.block w.heap.size (by simp)).trans Rl.O);have aM:=((Qb w.heap.size w).alloc (Qn _) (.cells cu 63)).trans (aG.mono (by simp));clear aG;obtain⟨x,va,vx,b,off,cap',cB,dC,⟨c0,c1,c2,c3,c4,c5,c6⟩,h1,h2⟩:=wD Hv.O aO i hi;cases dC;obtain⟨aa,ca,rfl,_,_,_⟩:=id h1;obtain⟨ax,cx,rfl,_,_,_⟩:=id h2;have H1:=Qh h1;have H2:=Qh h2;rw[cB]at Hn;have QN:=Xjt h1 h2;clear cB h1 h2;go_wp2_with (refine wpList_store_row rfl 63 _ _ rfl w.heap.size (lg x (.slice aa x.ag.length ca) (.slice ax x.aC.length cx)) rfl rfl 63 cu Hz.O Au rfl QN ?_)
  try simp only[Exit.inBlock,Exit.then]
  refine bodyPost_ret (v:= .tuple #[iF x (.slice aa x.ag.length ca) (.slice ax x.aC.length cx),.bool true]) ?_ rfl ?_
  ·rw[results_cell_tmp rfl];simp[asAddr,run_loadVar_row _ w.heap.size 63 63 (lg x (.slice aa x.ag.length ca) (.slice ax x.aC.length cx)) (0,0) _ (setRow_heap _ _ _ _ _ _ Hz.O) Tryz.underlying63 rfl Au]
  ·rw[Hn.O];exact⟨_,_,rfl,H1.O,H2.O,below_setRow aM (Qn _) _⟩
 ·have Hn:=Qh (Xmk e2);rw[e1]at Hf;clear e1 e2;go_enter Tryz.func73,Tryz.ntmps73
  go_wp2_with fail
  refine Hf.O.mono ?_;rintro e w1 ⟨rfl,aG⟩;have Hz:=Qh ((aG.block w.heap.size (by simp)).trans Rl.O);have aM:=((Qb w.heap.size w).alloc (Qn _) (.cells cu 63)).trans (aG.mono (by simp));clear aG;have hzo:cu.all (·.oneCell')=true:=by simp[Value.oneCell']
  go_wp2_with (refine wpList_store_row rfl 63 _ _ rfl w.heap.size cu rfl rfl 63 cu Hz.O Au rfl hzo ?_)
  try simp only[Exit.inBlock,Exit.then]
  refine bodyPost_ret (v:= .tuple #[.agg cu,.bool false]) ?_ rfl ?_
  ·rw[results_cell_tmp rfl];simp[asAddr,run_loadVar_row _ w.heap.size 63 63 cu (0,0) _ (setRow_heap _ _ _ _ _ _ Hz.O) Tryz.underlying63 rfl Au]
  ·rw[Hn.O];exact⟨.slice none 0 0,.slice none 0 0,rfl,aZ.nil _ _,aZ.nil _ _,below_setRow aM (Qn _) _⟩
theorem Xmp(I:IH)(v:Value)(t:List bD)(hv:aZ bM I v t)(p:af)(w:World)(hw:Ok I w):
 Calls Tryz.prog 68 #[v,S p] w fun e w'=>e= .returned (.int .i64 (dX t p))∧Below w.heap.size w w':=by
 have Hg:=Qh (Xvs I v t hv p w hw);obtain⟨ao,cap,rfl,fu,iv,_⟩:=id hv;clear hv;by_cases hp:p=[]
 ·obtain⟨p1,p2,p3,p4⟩:=EA hp;have Hn:=Qh (show dX t p=0 by rw[dX,if_pos hp]);clear hp;generalize mV t p=g at Hg;obtain⟨x,b⟩:=g;go_enter Tryz.func68,Tryz.ntmps68
  go_wp2_with fail
  refine Hg.O.mono ?_;rintro e w1 ⟨va,vx,rfl,h1,h2,aG⟩;obtain⟨aa,ca,rfl,_,_,_⟩:=id h1;obtain⟨ax,cx,rfl,_,_,_⟩:=id h2;clear h1 h2;go_wp2;go_ret;exact⟨dZ Hn.O.symm,aG.alloc aG.size _⟩
 ·obtain⟨p1,p2,p3,p4⟩:=Dh hp;have Hn:=Qh (Xju t p hp);clear hp;generalize mV t p=g at Hn Hg;obtain⟨x,b⟩:=g;go_enter Tryz.func68,Tryz.ntmps68
  go_wp2_with fail
  refine Hg.O.mono ?_;rintro e w1 ⟨va,vx,rfl,h1,h2,aG⟩;obtain⟨aa,ca,rfl,_,_,_⟩:=id h1;obtain⟨ax,cx,rfl,_,_,_⟩:=id h2;clear h1 h2;cases b
  ·have kR:=Qh (show dX t p=9 by rw[Hn.O];rfl);go_wp2;go_ret;exact⟨dZ kR.O.symm,aG.alloc aG.size _⟩
  ·by_cases hk:x.av=2
   ·have k1:((x.av:Int) !=2)=false:=by simpa using hk
    have kR:=Qh (show dX t p=0 by rw[Hn.O];simp[hk]);clear hk;go_wp2;go_ret;exact⟨dZ kR.O.symm,aG.alloc aG.size _⟩
   ·have k1:((x.av:Int) !=2)=true:=by simpa using hk
    have kR:=Qh (show dX t p=10 by rw[Hn.O];simp[hk]);clear hk;go_wp2;go_ret;exact⟨dZ kR.O.symm,aG.alloc aG.size _⟩
def inT(k:Int):Bool:=decide (k=1) || decide (k=2) || decide (k=3)
theorem rT{k:Int}:inT k=true↔k=1∨k=2∨k=3:=by simp[inT,or_assoc]
theorem Xtd(k:Int)(w:World):Calls Tryz.prog 63 #[.int .i64 k] w fun e w'=>e= .returned (.bool (inT k))∧w=w':=by
 by_cases h1:k=1
 ·have Hn:=Qh (show inT k=true from rT.2 (.inl h1));have f1:((k:Int)==1)=true:=by simpa using h1
  clear h1;go_enter Tryz.func63,Tryz.ntmps63
  go_wp2;go_ret;exact⟨jr Hn.O.symm,rfl⟩
 by_cases h2:k=2
 ·have Hn:=Qh (show inT k=true from rT.2 (.inr (.inl h2)));have f1:((k:Int)==1)=false:=by simpa using h1
  have f2:((k:Int)==2)=true:=by simpa using h2
  clear h1 h2;go_enter Tryz.func63,Tryz.ntmps63
  go_wp2;go_ret;exact⟨jr Hn.O.symm,rfl⟩
 by_cases h3:k=3
 ·have Hn:=Qh (show inT k=true from rT.2 (.inr (.inr h3)));have f1:((k:Int)==1)=false:=by simpa using h1
  have f2:((k:Int)==2)=false:=by simpa using h2
  have f3:((k:Int)==3)=true:=by simpa using h3
  clear h1 h2 h3;go_enter Tryz.func63,Tryz.ntmps63
  go_wp2;go_ret;exact⟨jr Hn.O.symm,rfl⟩
 have Hn:=Qh (show inT k=false by
  cases h:inT k with
  |false=>rfl
  |true=>rcases rT.1 h with h|h|h<;>contradiction)
 have f1:((k:Int)==1)=false:=by simpa using h1
 have f2:((k:Int)==2)=false:=by simpa using h2
 have f3:((k:Int)==3)=false:=by simpa using h3
 clear h1 h2 h3;go_enter Tryz.func63,Tryz.ntmps63
 go_wp2;go_ret;exact⟨jr Hn.O.symm,rfl⟩
def II(t:List bD):Prop:=∀x∈t,x.aj.length≤4294967280∧x.target.length≤4294967280
