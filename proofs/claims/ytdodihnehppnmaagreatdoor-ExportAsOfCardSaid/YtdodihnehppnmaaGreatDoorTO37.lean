/- Lemmas; conditions: as each says. -/
import Derived.Test.YtdodihnehppnmaaGreatDoorTO34
import Derived.Test.YtdodihnehppnmaaGreatDoorTO35
import Derived.Test.YtdodihnehppnmaaGreatDoorTO36
set_option linter.all false
namespace Go.Proofs.YtdodihnehppnmaaGreatDoor
open Go.RowKit
structure ImR (I:IH) (w:World) (N:Nat) (J:IH) (t:List Ent) (o:List Chg) (vt vo:Value) (W:World):Prop where
 mt:MAt I w J W
 ex:Ext w.heap.size I J
 lo:w.heap.size≤N
 sz:N≤W.heap.size
 gt:Gat tEnt 26 N J W vt t
 go:Gat tChg 65 N J W vo o
 sp:Sep vt vo
section
variable {I J J':IH} {w W W':World} {N:Nat} {t t':List Ent} {o o':List Chg} {vt vo vt' vo':Value}
end
def dirA:Ent:=⟨2,[97],[],[],0,[],[]⟩
def awS:Ses:=⟨1,0,[],[dirA],[],[]⟩
def awT:Bytes:= [49,32,49,53,58,51,58,100,105,114,44,49,58,97,44,48,32,48,58,44,44,48,58,44]
theorem Xta:expT [awS] 0=(awT,0):=by decide +kernel
theorem Xs9:treeAt [awS] 0= [dirA]:=by decide +kernel
theorem Xxw:impP entOf awT= .ok [⟨2,[97],[],[],[]⟩]:=by
 have h:=Xug (st:=strmsP [awS]) (t:=treeAt [awS] 0) (Xjq _) (by rw [Xs9];decide) (by have:=Xta;unfold expT at this;rw [this])
 have e:(trP (strmsP [awS]) (treeAt [awS] 0)).1=awT:=by have:=Xta;unfold expT at this;rw [this]
 rw [e,Xs9] at h
 rw [h]
 rfl
theorem Xxv:∀x∈ [awS],SesG x:=fun x hx=>by
 rw [List.mem_singleton.1 hx]
 refine ⟨by decide,by decide,by decide,by decide,?_,?_,?_,?_,by decide,by decide⟩
 all_goals
  intro e he
  rw [List.mem_singleton.1 (show e∈ [dirA] from he)]
 ·exact ⟨by decide,by decide,by decide,fun x hx=>(by cases hx),by decide,by decide,by decide,by decide,fun x hx=>(by cases hx)⟩
 all_goals decide
set_option maxRecDepth 100000 in
set_option maxHeartbeats 1000000 in
theorem Xhz (I:IH) (hI:Glob I) (w:World) (hw:Ok I w):
 Calls Tryz.prog 13 #[] w fun e w'=>e= .returned (.bool true)∧Below w.heap.size w w':=by
 have A0:=(MAt.start hw).past (.cells (entCs dirA (.slice none 0 0) (.slice none 0 0)).toArray 26)
 obtain ⟨K,hk,_,hok,hkn,hrE⟩:=one_row (T:=tEnt) (x:=dirA) (cs:=entCs dirA (.slice none 0 0) (.slice none 0 0)) A0.ok (heap_alloc_new w _) (hw.fresh (Qn _)) ⟨_,_,rfl,RdS.nil _ _,RdS.nil _ _⟩
 have A1:MAt I w K _:=⟨hok,hk,A0.bel⟩
 have A2:=A1.past (.cells (sesCs awS (.slice (some ⟨w.heap.size,0,none⟩) 1 1)).toArray 35)
 obtain ⟨J,hj,_,hokJ,_,hrS⟩:=one_row (T:=tSes) (x:=awS) (cs:=sesCs awS (.slice (some ⟨w.heap.size,0,none⟩) 1 1)) A2.ok (heap_alloc_new _ _) (hok.fresh (Qn _)) ⟨_,rfl,hrE⟩
 have A3:=Qh (show MAt I w J _ from ⟨hokJ,fun b c h=>hj b c (hk b c h),A2.bel⟩)
 rw [show (w.alloc (.cells (entCs dirA (.slice none 0 0) (.slice none 0 0)).toArray 26)).heap.size=w.heap.size+1 by simp] at hrS
 have Htr:=Qh (fun w hw=>Xh7 J (hI.mono fun b c h=>hj b c (hk b c h)) _ [awS] hrS Xxv (by decide) 0 w hw)
 rw [Xta] at Htr
 have Him:=Qh (fun w hw=>Xsg J (hI.mono fun b c h=>hj b c (hk b c h)) awT (by decide) w hw)
 rw [Xxw] at Him
 clear A0 A1 A2 hk hok hkn hrE hj hokJ hrS
 go_enter Tryz.func13,Tryz.ntmps13
 go_wp2_with fail
 refine (Htr.out _ A3.out.ok).mono ?_
 rintro e w1 ⟨rfl,hb1⟩
 have A4:=Qh (A3.out.quiet hb1)
 clear hb1 A3
 go_wp2_with fail
 refine (Him.out _ A4.out.ok).mono ?_
 rintro e w2 ⟨v2,J2,rfl,hb2,hx2,hok2,hr2⟩
 have hr2:RdS tChg J2 v2 [⟨2,[97],[],[],[]⟩]:=hr2
 obtain ⟨x,va,b,off,cap,hlx,hvv,⟨c0,c1,c2,c3,c4⟩,h1⟩:=Xx5 hr2 hok2 0 (by decide)
 have hx:x=⟨2,[97],[],[],[]⟩:=hlx.symm
 subst hx
 cases hvv
 have A5:=Qh (A4.out.bel.trans (hb2.mono A4.out.bel.size))
 clear hr2 hb2 hx2 hok2 hlx h1 A4
 go_wp2
 go_ret
 exact ⟨rfl,A5.out⟩
end Go.Proofs.YtdodihnehppnmaaGreatDoor
