/- Lemmas for the claim's theorem;conditions: as each says. -/
import Derived.Test.YtdodihnehppnmaaGreatDoorG41
set_option maxHeartbeats 0
set_option maxRecDepth 100000
set_option linter.all false
namespace Go.Proofs.YtdodihnehppnmaaGreatDoor
open Go.RowKit
variable{α:Type}{x y:ay}{a:List ay}{T U:List α}{c:Bool}{p:α}
def Js(b:List ay)(x:ay):Bool:=match dC b x.af with|none=>true|some y=> !(meaning x y)
def Ex(a:List ay)(y:ay):Bool:=(dC a y.af).isNone
theorem Xxj(a b:List ay):rZ a b=(a.filter (Js b)).map ay.af++(b.filter (Ex a)).map ay.af:=rfl
theorem Xzt{b:List ay}{ok:Bool}(h:jf b x.af=(y,ok)):(ok=false∧Js b x=true)∨(ok=true∧Js b x=!(meaning x y)):=by
 unfold jf at h;unfold Js;cases hg:dC b x.af with
 |none=>rw[hg]at h;cases h;exact .inl ⟨rfl,rfl⟩
 |some z=>rw[hg]at h;cases h;exact .inr ⟨rfl,rfl⟩
theorem Xzs:(∃i:Nat,l9 a (nJ y.af)=i∧Ex a y=false)∨(l9 a (nJ y.af)= -1∧Ex a y=true):=by
 rcases IE a (nJ y.af)with⟨i,hi,e1,e2,_⟩|⟨e1,e2⟩
 ·refine .inl ⟨i,e1,?_⟩;unfold Ex dC;cases hf:a.find? (fun x=>x.af==y.af)with
  |some z=>rfl
  |none=>
   rw[List.find?_eq_none]at hf;exact absurd e2 (hf a[i] (List.getElem_mem hi))
 ·refine .inr ⟨e1,?_⟩;unfold Ex dC;cases hf:a.find? (fun x=>x.af==y.af)with
  |none=>rfl
  |some z=>
   have h1:=List.mem_of_find?_eq_some hf;have h2:=List.find?_some hf;rw[List.any_eq_true.2 ⟨z,h1,h2⟩]at e2;exact absurd e2 (by simp)
theorem Xm8(f:ay→Bool){k:Nat}(hk:k<a.length)(hx:a[k]=x):((a.take (k+1)).filter f).map ay.af=((a.take k).filter f).map ay.af++(if f x then [x.af]else []):=by
 rw[List.take_succ_eq_append_getElem hk,hx,List.filter_append];cases h:f x<;>simp[h]
theorem Zo(h:T=U++(if c=true then [p]else []))(hc:c=true):T=U++[p]:=by rw[h,if_pos hc]
theorem Xx8(h:T=U++(if c=true then [p]else []))(hc:c=false):T=U:=by rw[h,hc,if_neg (by simp),List.append_nil]
theorem Xqf(f:ay→Bool)(a:List ay)(k:Nat):(((a.take k).filter f).map ay.af).length≤k:=by
 rw[List.length_map];exact Nat.le_trans (List.length_filter_le _ _) (by simp;omega)
theorem aM.cast{T:Ty α}{E:TypeId}{I:IH}{w:World}{B:Nat}{v:Value}{l l':List α}(h:aM T E I w B v l)(e:l=l'):aM T E I w B v l':=e▸h
theorem Xuw(I:IH)(hI:dG I)(v1 v2:Value)(a b:List ay)(xN:bf bC I v1 a)(xO:bf bC I v2 b)(Sj:pJ a)(hsb:pJ b)(UT:a.length≤1000)(hnb:b.length≤1000)(w:World)(hw:Ok I w):
 Calls Tryz.prog 29 #[v1,v2] w fun e w'=> ∃l,Ew (rZ a b) l∧FT gq I w l e w':=by
 obtain⟨ao,cap,rfl,dD,il,_⟩:=id xN;obtain⟨uV,cap2,rfl,qK,rJ,_⟩:=id xO;have Uw:=Qh xN;have Ux:=Qh xO;have HI:=Qh hI;have Zp:=Qh Sj;have Hsb:=Qh hsb;have jw:=Qh (fun b (hb:w.heap.size≤b)=>hw.fresh (b:=b) hb);clear xN xO Sj hsb hI;go_enter Tryz.func29,Tryz.ntmps29
 go_wp2_with fail
 go_loopw [5,14] (fun s5 XY wr=> ∃k:Nat,k≤a.length∧XY= .int .i64 k∧aM gq 9 I wr w.heap.size s5 (((a.take k).filter (Js b)).map ay.af)∧Below w.heap.size w wr) (fun _ i _=>a.length-(intOf i).toNat)
 case atStart=>exact⟨0,Nat.zero_le _,rfl,aM.nil _ _ _ _ _,Qb _ _⟩
 case round=>
  obtain⟨k,hk,rfl,bJ,hb⟩:=hrel;have bD:=Qh bJ;clear bJ;have dz:Ok I wr:=hw.below (Qn _) hb;have hlen:=Xqf (Js b) a k;by_cases hlt:k<a.length
  ·obtain⟨x,va,vx,bb,off,cap',bN,di,⟨c0,c1,c2,c3,c4,c5,c6⟩,h1,h2⟩:=oG Uw.O dz k hlt;cases di;obtain⟨xa,xc,rfl,_,_,_⟩:=id h1;obtain⟨xx,xd,rfl,_,_,_⟩:=id h2;have bB:=Qh (Xm8 (Js b) hlt bN);have mJ:=Qh h1;have mi:=Qh h2;have wS:=Qh (fun w hw=>TC I _ b Ux.O x.af w hw);clear bN h1 h2;obtain⟨y,ok,hg⟩:∃y ok,jf b x.af=(y,ok):=⟨_,_,rfl⟩;have Hg:=Qh (Xzt hg);rw[hg]at wS;clear hg;go_wp2_with fail
   refine(wS.O _ (dz.alloc _)).mono ?_;rintro e1 w1 ⟨vy,vz,rfl,g1,g2,au⟩;obtain⟨ya,yc,rfl,_,_,_⟩:=id g1;obtain⟨yx,yd,rfl,_,_,_⟩:=id g2;have HX:=Qh ((bS (e:=x) rfl au).past (.cells #[.int .i64 y.ag,S y.af,.slice ya y.ai.length yc,S y.target,.int .i64 y.size,S y.aj,.slice yx y.ak.length yd] 26));have HY:=Qh (bS (n:=w1.heap.size) (e:=y) (va:= .slice ya y.ai.length yc) (vx:= .slice yx y.ak.length yd) (t:=26) rfl (Qb _ _));have av:=(hb.alloc hb.size (.cells #[.int .i64 x.ag,S x.af,.slice xa x.ai.length xc,S x.target,.int .i64 x.size,S x.aj,.slice xx x.ak.length xd] 26)).trans (au.mono (by have:=hb.size;simp;omega));have aD:=av.alloc av.size (.cells #[.int .i64 y.ag,S y.af,.slice ya y.ai.length yc,S y.target,.int .i64 y.size,S y.aj,.slice yx y.ak.length yd] 26);have aP:Ok I (w1.alloc (.cells #[.int .i64 y.ag,S y.af,.slice ya y.ai.length yc,S y.target,.int .i64 y.size,S y.aj,.slice yx y.ak.length yd] 26)):=((dz.alloc _).below (Qn _) au).alloc _;have lh:=Qh (((bD.O.alloc (.cells #[.int .i64 x.ag,S x.af,.slice xa x.ai.length xc,S x.target,.int .i64 x.size,S x.aj,.slice xx x.ak.length xd] 26)).below au).alloc (.cells #[.int .i64 y.ag,S y.af,.slice ya y.ai.length yc,S y.target,.int .i64 y.size,S y.aj,.slice yx y.ak.length yd] 26));have yX:=Qh (fun w hw=>Xzo I x y _ _ _ _ mJ.O mi.O g1 g2 w hw);clear au av g1 g2 c0 c1 c2 c3 c4 c5 c6 bD wS;obtain⟨x0,x1,x2,x3,x4,x5,x6⟩:=HX.O;obtain⟨y0,y1,y2,y3,y4,y5,y6⟩:=HY.O;have MI:=Hg.O;rcases MI with⟨rfl,hd⟩|⟨rfl,hd⟩
   ·have Hn:=Qh (Zo bB.O hd);clear hd;go_wp2_with (at_builtin;refine oq (w0:=w1.alloc (.cells #[.int .i64 y.ag,S y.af,.slice ya y.ai.length yc,S y.target,.int .i64 y.size,S y.aj,.slice yx y.ak.length yd] 26)) JW rfl _ _ rfl _ _ _ rfl lh.O x.af [S x.af] _ (by simp[Act.eval]) rfl (by omega) (by omega) (Below.size aD) ?_)
    intro v9 w9 dF fw;have iq:=Below.own aD fw lh.O (Qn _) (Below.size aD);go_wp2;go_roundw;case rel=>exact⟨k+1,by omega,by go_num,(dF.cast Hn.O.symm),iq⟩
    case measure=>simp[intOf];omega
   ·generalize meaning x y=m at yX hd;go_wp2_with fail
    refine(yX.O _ aP).mono ?_;rintro e3 w3 ⟨rfl,bU⟩;have df:=aD.trans (bU.mono aD.size);have rX:=Qh (lh.O.below bU);clear x0 x1 x2 x3 x4 x5 x6 y0 y1 y2 y3 y4 y5 y6;obtain⟨x0,x1,x2,x3,x4,x5,x6⟩:=HX.O.aA bU;clear bU aD lh;cases m
    ·have Hn:=Qh (Zo bB.O hd);clear hd;go_wp2_with (at_builtin;refine oq (w0:=w3) JW rfl _ _ rfl _ _ _ rfl rX.O x.af [S x.af] _ rfl rfl (by omega) (by omega) (Below.size df) ?_)
     intro v9 w9 dF fw;have iq:=Below.own df fw rX.O (Qn _) (Below.size df);go_wp2;go_roundw;case rel=>exact⟨k+1,by omega,by go_num,(dF.cast Hn.O.symm),iq⟩
     case measure=>simp[intOf];omega
    ·have Hn:=Qh (Xx8 bB.O hd);clear hd;go_wp2;go_roundw;case rel=>exact⟨k+1,by omega,by go_num,(by rw[Hn.O];exact rX.O),df⟩
     case measure=>simp[intOf];omega
  ·have Xl:a.take k=a:=List.take_of_length_le (by omega);rw[Xl]at bD hlen;clear Xl;obtain⟨L,hL⟩:∃L,(a.filter (Js b)).map ay.af=L:=⟨_,rfl⟩;have HL:=Qh hL;rw[hL]at bD hlen;have bB:=Qh bD.O;have CK:=Qh hb;clear hL;go_wp2_with fail
   go_loopw [5,41] (fun s5 s41 wr=> ∃j:Nat,j≤b.length∧s41= .int .i64 j∧aM gq 9 I wr w.heap.size s5 (L++((b.take j).filter (Ex a)).map ay.af)∧Below w.heap.size w wr) (fun _ i _=>b.length-(intOf i).toNat)
   case atStart=>exact⟨0,Nat.zero_le _,rfl,(by simpa using bB.O),CK.O⟩
   case round=>
    clear bB CK;obtain⟨j,hj,rfl,bJ,hb⟩:=hrel;have bD:=Qh bJ;clear bJ;have LH:Ok I wr:=hw.below (Qn _) hb;have xU:=Xqf (Ex a) b j;by_cases jm:j<b.length
    ·obtain⟨y,va,vy,bb,off,cap',iB,di,⟨c0,c1,c2,c3,c4,c5,c6⟩,h1,h2⟩:=oG Ux.O LH j jm;cases di;obtain⟨ya,yc,rfl,_,_,_⟩:=id h1;obtain⟨yx,yd,rfl,_,_,_⟩:=id h2;have bB:=Qh (Xm8 (Ex a) jm iB);have Hfi:=Qh (fun w hw=>WL I _ a Uw.O y.af w hw);have Hq:=Qh (Xzs (a:=a) (y:=y));clear iB h1 h2;generalize l9 a (nJ y.af)=q at Hfi Hq;go_wp2_with fail
     refine(Hfi.O _ (LH.alloc _)).mono ?_;rintro e1 w1 ⟨rfl,au⟩;have HY:=Qh (bS (e:=y) rfl au);have av:=(hb.alloc hb.size (.cells #[.int .i64 y.ag,S y.af,.slice ya y.ai.length yc,S y.target,.int .i64 y.size,S y.aj,.slice yx y.ak.length yd] 26)).trans (au.mono (by have:=hb.size;simp;omega));have tZ:=Qh ((bD.O.alloc (.cells #[.int .i64 y.ag,S y.af,.slice ya y.ai.length yc,S y.target,.int .i64 y.size,S y.aj,.slice yx y.ak.length yd] 26)).below au);clear au c0 c1 c2 c3 c4 c5 c6 bD hb;obtain⟨y0,y1,y2,y3,y4,y5,y6⟩:=HY.O;have MI:=Hq.O;have Cz:(L++((b.take j).filter (Ex a)).map ay.af).length≤2000:=by rw[List.length_append];omega
     rcases MI with⟨i,rfl,hd⟩|⟨rfl,hd⟩
     ·have Hn:=Qh (Xx8 bB.O hd);have hni:decide ((i:Int)<0)=false:=Qf (by omega);clear hd;go_wp2;go_roundw;case rel=>exact⟨j+1,by omega,by go_num,(by rw[Hn.O];exact tZ.O),av⟩
      case measure=>simp[intOf];omega
     ·have Hn:=Qh (Zo bB.O hd);clear hd;go_wp2_with (at_builtin;refine oq (w0:=w1) JW rfl _ _ rfl _ _ _ rfl tZ.O y.af [S y.af] _ rfl rfl (by omega) (by omega) (Below.size av) ?_)
      intro v9 w9 dF fw;have iq:=Below.own av fw tZ.O (Qn _) (Below.size av);go_wp2;go_roundw;case rel=>exact⟨j+1,by omega,by go_num,(dF.cast (by simp[Hn.O])),iq⟩
      case measure=>simp[intOf];omega
    ·have htb:b.take j=b:=List.take_of_length_le (by omega);rw[htb]at bD xU;have mK:∀p∈L++(b.filter (Ex a)).map ay.af,p.length≤4294967280:=by
      intro p hp;rw[←HL.O]at hp;rcases List.mem_append.1 hp with h|h
      ·obtain⟨z,hz,rfl⟩:=List.mem_map.1 h;exact(Zp.O z (List.mem_filter.1 hz).1).1
      ·obtain⟨z,hz,rfl⟩:=List.mem_map.1 h;exact(Hsb.O z (List.mem_filter.1 hz).1).1
     have Hso:=Qh (Xtl I HI.O wr LH w.heap.size _ _ jw.O mK bD.O (by rw[List.length_append];omega));have Hdu:=Qh (show L++(b.filter (Ex a)).map ay.af=rZ a b by rw[Xxj,HL.O]);clear mK htb;go_wp2_with fail
     refine Hso.O.mono ?_;rintro e3 w3 ⟨rfl,l,vY,JR,uJ⟩;have bU:=Below.own hb uJ bD.O (Qn _) (Below.size hb);have bQ:Ok I w3:=hw.below (Qn _) bU;rw[Hdu.O]at vY;have UC:=Qh vY;have rX:=Qh JR;clear vY JR uJ Hso;go_wp2;go_ret;obtain⟨I',jo,jA,kG,_⟩:=rX.O.freeze bQ jw.O;exact⟨l,UC.O,_,I',rfl,bU,jo,jA,kG⟩
