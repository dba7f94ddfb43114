/- Lemmas for the claim's theorem;conditions: as each says. -/
import Derived.Test.YtdodihnehppnmaaGreatDoorG34
import Derived.Test.YtdodihnehppnmaaGreatDoorG35
import Derived.Test.YtdodihnehppnmaaGreatDoorG36
set_option maxHeartbeats 0
set_option maxRecDepth 100000
set_option linter.all false
namespace Go.Proofs.YtdodihnehppnmaaGreatDoor
open Go.RowKit
structure ImR (I:IH) (w:World) (N:Nat) (J:IH) (t:List ay) (o:List tC) (vt vo:Value) (W:World):Prop where
 mt:lT I w J W
 ex:Ext w.heap.size I J
 lo:w.heap.size≤N
 sz:N≤W.heap.size
 gt:vE bC 26 N J W vt t
 go:vE xg 65 N J W vo o
 sp:Sep vt vo
section
variable {I J J':IH} {w W W':World} {N:Nat} {t t':List ay} {o o':List tC} {vt vo Aa QU:Value}
end
def Ad:ay:=⟨2,[97],[],[],0,[],[]⟩
def Er:dm:=⟨1,0,[],[Ad],[],[]⟩
def Us:ae:=[49,32,49,53,58,51,58,100,105,114,44,49,58,97,44,48,32,48,58,44,44,48,58,44]
theorem Y4:jk [Er] 0=(Us,0):=by decide+kernel
theorem Xvf:bZ [Er] 0=[Ad]:=by decide+kernel
theorem X0w:yH fZ Us= .ok [⟨2,[97],[],[],[]⟩]:=by
 have h:=Xp7 (st:=aS [Er]) (t:=bZ [Er] 0) (Ji _) (by rw[Xvf];decide) (by have:=Y4;unfold jk at this;rw[this]);have e:(BZ (aS [Er]) (bZ [Er] 0)).1=Us:=by have:=Y4;unfold jk at this;rw[this]
 rw[e,Xvf]at h;rw[h];rfl
theorem X0v:∀x∈[Er],kR x:=fun x hx=>by
 rw[List.mem_singleton.1 hx];refine⟨by decide,by decide,by decide,by decide,?_,?_,?_,?_,by decide,by decide⟩
 all_goals
  intro e he;rw[List.mem_singleton.1 (show e∈[Ad]from he)]
 ·exact⟨by decide,by decide,by decide,fun x hx=>(by cases hx),by decide,by decide,by decide,by decide,fun x hx=>(by cases hx)⟩
 all_goals decide
theorem Xil(I:IH)(hI:dG I)(w:World)(hw:Ok I w):
 Calls Tryz.prog 13 #[] w fun e w'=>e= .returned (.bool true)∧Below w.heap.size w w':=by
 have A0:=(lT.start hw).past (.cells (dB Ad (.slice none 0 0) (.slice none 0 0)).toArray 26);obtain⟨K,hk,_,gK,Om,hrE⟩:=one_row (T:=bC) (x:=Ad) (cs:=dB Ad (.slice none 0 0) (.slice none 0 0)) A0.ok (heap_alloc_new w _) (hw.fresh (Qn _)) ⟨_,_,rfl,bf.nil _ _,bf.nil _ _⟩;have A1:lT I w K _:=⟨gK,hk,A0.fA⟩;have A2:=A1.past (.cells (D8 Er (.slice (some ⟨w.heap.size,0,none⟩) 1 1)).toArray 35);obtain⟨J,hj,_,zM,_,Y5⟩:=one_row (T:=oK) (x:=Er) (cs:=D8 Er (.slice (some ⟨w.heap.size,0,none⟩) 1 1)) A2.ok (heap_alloc_new _ _) (gK.fresh (Qn _)) ⟨_,rfl,hrE⟩;have A3:=Qh (show lT I w J _ from⟨zM,fun b c h=>hj b c (hk b c h),A2.fA⟩);rw[show(w.alloc (.cells (dB Ad (.slice none 0 0) (.slice none 0 0)).toArray 26)).heap.size=w.heap.size+1 by simp]at Y5;have yg:=Qh (fun w hw=>Uo J (hI.mono fun b c h=>hj b c (hk b c h)) _ [Er] Y5 X0v (by decide) 0 w hw);rw[Y4]at yg;have N7:=Qh (fun w hw=>Xnb J (hI.mono fun b c h=>hj b c (hk b c h)) Us (by decide) w hw);rw[X0w]at N7;clear A0 A1 A2 hk gK Om hrE hj zM Y5;go_enter Tryz.func13,Tryz.ntmps13
 go_wp2_with fail
 refine(yg.O _ A3.O.ok).mono ?_;rintro e w1 ⟨rfl,au⟩;have A4:=Qh (A3.O.quiet au);clear au A3;go_wp2_with fail
 refine(N7.O _ A4.O.ok).mono ?_;rintro e w2 ⟨v2,J2,rfl,aD,eZ,aP,fQ⟩;have fQ:bf xg J2 v2 [⟨2,[97],[],[],[]⟩]:=fQ;obtain⟨x,va,b,off,cap,bN,di,⟨c0,c1,c2,c3,c4⟩,h1⟩:=X0t fQ aP 0 (by decide);have hx:x=⟨2,[97],[],[],[]⟩:=bN.symm;subst hx;cases di;have A5:=Qh (A4.O.fA.trans (aD.mono A4.O.fA.size));clear fQ aD eZ aP bN h1 A4;go_wp2;go_ret;exact⟨rfl,A5.O⟩
