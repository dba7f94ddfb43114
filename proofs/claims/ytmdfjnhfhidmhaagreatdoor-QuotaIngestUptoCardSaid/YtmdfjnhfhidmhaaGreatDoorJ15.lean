/- Lemmas for the claim's theorem;conditions: as each says. -/
import Derived.Test.YtmdfjnhfhidmhaaGreatDoorJ14
set_option maxHeartbeats 0
set_option maxRecDepth 100000
set_option linter.all false
namespace Go.Proofs.YtmdfjnhfhidmhaaGreatDoor
open Go.RowKit
def gD(e:aT)(x:aT):Bool:=decide (e.au=4)&&under x.ag e.ag
theorem Xlv(I:IH)(hI:eG I)(e:aT)(xm:e.ag.length≤4294967280)(be:Nat)(ve vy:Value)(l:List aT)(hl:ET l)(C:World→Prop)(hC:∀W,C W→Ok I W∧bB W be e ve vy):
 yU 80 #[.pointer (some ⟨be,0,none⟩)] l (gD e) C:=by
 intro x hx a1 a2 c1 c2 W hW;obtain⟨iQ,hB⟩:=hC W hW;have Hu:=Qh (fun w hw=>XK I hI x.ag e.ag (hl x hx).1 xm w hw);obtain⟨c0,d1,d2,d3,d4,d5,d6⟩:=bB.past hB (.cells #[.int .i64 x.au,S x.ag,.slice a1 x.aj.length c1,S x.target,.int .i64 x.size,S x.av,.slice a2 x.aA.length c2] 81);clear hB hC d2 d3 d4 d5 d6;by_cases hk:e.au=4
 ·have k1:((e.au:Int)==4)=true:=by simpa using hk
  have Hn:=Qh (show gD e x=under x.ag e.ag by rw[gD,Qt hk];rfl);clear hk;go_enter Tryz.func80,Tryz.ntmps80
  go_wp2_with fail
  refine(Hu.O _ (iQ.alloc _)).mono ?_;rintro e w1 ⟨rfl,aD⟩;go_wp2;go_ret;exact⟨ib Hn.O.symm,((Qb _ _).alloc (Qn _) _).trans (aD.mono (by simp))⟩
 ·have k1:((e.au:Int)==4)=false:=by simpa using hk
  have Hn:=Qh (show gD e x=false by rw[gD,Qf hk];rfl);clear hk;go_enter Tryz.func80,Tryz.ntmps80
  go_wp2;go_ret;exact⟨ib Hn.O.symm,(Qb _ _).alloc (Qn _) _⟩
theorem Xlu(I:IH)(hI:eG I)(x:aT)(hx:x.ag.length≤4294967280)(a1 a2:Option Addr)(c1 c2:Nat)(p:af)(hp:p.length≤4294967280)(W:World)(hW:Ok I W):
 Calls Tryz.prog 86 #[gN x (.slice a1 x.aj.length c1) (.slice a2 x.aA.length c2),S p] W fun e w'=>e= .returned (.int .i64 (iU x.ag p))∧Below W.heap.size W w':=by
 have Hc:=Qh (fun w hw=>Xiv I hI x.ag p hx hp w hw);go_enter Tryz.func86,Tryz.ntmps86
 go_wp2_with fail
 refine(Hc.O _ (hW.alloc _)).mono ?_;rintro e w1 ⟨rfl,aD⟩;go_wp2;go_ret;exact⟨rfl,((Qb _ _).alloc (Qn _) _).trans (aD.mono (by simp))⟩
def Yy(w:World)(n:Nat)(e:Ending)(w':World):Prop:=∃b:Bool,e= .returned (.tuple #[.int .i64 n,.bool b])∧Below w.heap.size w w'
theorem Xdw(I:IH)(hI:eG I)(v:Value)(l:List aT)(hv:aZ bQ I v l)(hn:l.length≤1000000)(hl:ET l)(p:af)(hp:p.length≤4294967280)(w:World)(hw:Ok I w):
 Calls Tryz.prog 85 #[v,S p,.func (.func 86) #[] #[]] w (Yy w (bs (gF l p) 0 l.length)):=by
 obtain⟨ao,cap,rfl,dO,fJ,_⟩:=id hv;have Hv:=Qh hv;clear hv;have Hl:=Qh hl;clear hl;have eg:∀args w,(callFunc 86 args).run Tryz.prog w= .ok (.enter 86 args) w:=fun _ _=>by kernel_rfl
 obtain⟨N,hN⟩:∃N,bs (gF l p) 0 l.length=N:=⟨_,rfl⟩;have HN:=Qh hN;rw[hN];clear hN;go_enter Tryz.func85,Tryz.ntmps85
 go_wp2_with fail
 go_loopw [9,10] (fun s9 s10 wr=> ∃lo hi:Nat,s9= .int .i64 lo∧s10= .int .i64 hi∧lo≤hi∧hi≤l.length∧bs (gF l p) lo hi=N∧Below w.heap.size w wr) (fun a b _=>(intOf b).toNat-(intOf a).toNat)
 case atStart=>exact⟨0,l.length,rfl,rfl,Nat.zero_le _,Qn _,HN.O,Qb _ _⟩
 case round=>
  clear HN;obtain⟨lo,hi,rfl,rfl,Wn,TL,hr,hb⟩:=hrel;have Hr:=Qh hr;clear hr;have dG:Ok I wr:=hw.below (Qn _) hb;by_cases hlt:lo<hi
  ·obtain⟨x,va,vx,b,off,cap',dA,cZ,⟨c0,c1,c2,c3,c4,c5,c6⟩,h1,h2⟩:=yu Hv.O dG ((lo+hi) / 2) (by omega);cases cZ;obtain⟨aa,ca,rfl,_,_,_⟩:=id h1;obtain⟨ax,cx,rfl,_,_,_⟩:=id h2;have Hnl:=Qh (show gF l p ((lo+hi) / 2)=!(jO (els x.ag) (els p)) by rw[gF,List.getElem?_eq_getElem (by omega),dA]);have Hc:=Qh (fun W hW=>Xlu I hI x (Hl.O x (by rw[←dA];exact List.getElem_mem _)).1 aa ax ca cx p hp W hW);have hj:(0:Int)≤((lo:Int)+(hi:Int)) / 2:=by omega
   have JA:((lo:Int)+(hi:Int)) / 2<(l.length:Int):=by omega
   have hm:(((lo:Int)+(hi:Int)) / 2).toNat=(lo+hi) / 2:=by omega
   have PO:(((lo+hi) / 2:Nat):Int)=((lo:Int)+(hi:Int)) / 2:=by omega
   have Hm2:=Qh PO;clear dA h1 h2 PO;cases hlp:jO (els x.ag) (els p)
   ·have iL:=Qh (show bs (gF l p) lo ((lo+hi) / 2)=N by rw[←Hr.O];conv=>rhs;rw[bs];rw[dif_pos hlt,Hnl.O,hlp];simp);rcases Xuu hlp with hc|hc
    all_goals
     rw[hc]at Hc;clear hc hlp;go_wp2_with fail
     refine(Hc.O _ dG).mono ?_;rintro e w1 ⟨rfl,aD⟩;go_wp2;go_roundw;case rel=>exact⟨lo,(lo+hi) / 2,rfl,by rw[Hm2.O],by omega,by omega,iL.O,hb.trans (aD.mono hb.size)⟩
     case measure=>simp[intOf];omega
   ·have iL:=Qh (show bs (gF l p) ((lo+hi) / 2+1) hi=N by rw[←Hr.O];conv=>rhs;rw[bs];rw[dif_pos hlt,Hnl.O,hlp];simp);rw[Xut hlp]at Hc;clear hlp;go_wp2_with fail
    refine(Hc.O _ dG).mono ?_;rintro e w1 ⟨rfl,aD⟩;go_wp2;go_roundw;case rel=>exact⟨(lo+hi) / 2+1,hi,(by rw[←Hm2.O];go_num),rfl,by omega,by omega,iL.O,hb.trans (aD.mono hb.size)⟩
    case measure=>simp[intOf];omega
  ·have Yz:=Qh (show lo=N by rw[←Hr.O,bs,dif_neg hlt]);by_cases uE:lo<l.length
   ·obtain⟨x,va,vx,b,off,cap',dA,cZ,⟨c0,c1,c2,c3,c4,c5,c6⟩,h1,h2⟩:=yu Hv.O dG lo uE;cases cZ;obtain⟨aa,ca,rfl,_,_,_⟩:=id h1;obtain⟨ax,cx,rfl,_,_,_⟩:=id h2;have Hc:=Qh (fun W hW=>Xlu I hI x (Hl.O x (by rw[←dA];exact List.getElem_mem _)).1 aa ax ca cx p hp W hW);have hd:decide (lo<l.length)=true:=Qt uE;generalize iU x.ag p=cc at Hc;clear dA h1 h2;go_wp2_with fail
    refine(Hc.O _ dG).mono ?_;rintro e w1 ⟨rfl,aD⟩;go_wp2;go_ret2;rw[←Yz.O];exact⟨_,rfl,hb.trans (aD.mono hb.size)⟩
   ·have hd:decide (lo<l.length)=false:=Qf uE;go_wp2;go_ret2;rw[←Yz.O];exact⟨_,rfl,hb⟩
