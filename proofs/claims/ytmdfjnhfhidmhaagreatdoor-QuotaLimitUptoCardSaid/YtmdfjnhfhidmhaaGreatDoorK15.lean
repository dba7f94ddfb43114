/-
  Walks and laws that the claim's theorem uses: texts PtE, joined; comments out. Conditions: as each theorem says.
-/
import Derived.Test.YtmdfjnhfhidmhaaGreatDoorK14
set_option linter.all false
namespace Go.Proofs.YtmdfjnhfhidmhaaGreatDoor
open Go.RowKit
def remB (e:Ent) (x:Ent):Bool:=decide (e.kind=4)&&under x.path e.path
set_option maxRecDepth 100000 in
set_option maxHeartbeats 400000 in
theorem Xjh (I:IH) (hI:Glob I) (e:Ent) (hel:e.path.length≤4294967280) (be:Nat) (ve vy:Value) (l:List Ent) (hl:SmlT l) (C:World→Prop) (hC:∀W,C W→Ok I W∧EntB W be e ve vy):
 PredE 80 #[.pointer (some ⟨be,0,none⟩)] l (remB e) C:=by
 intro x hx a1 a2 c1 c2 W hW
 obtain ⟨hok,hB⟩:=hC W hW
 have Hu:=Qh (fun w hw=>Xhn I hI x.path e.path (hl x hx).1 hel w hw)
 obtain ⟨c0,d1,d2,d3,d4,d5,d6⟩:=EntB.past hB (.cells #[.int .i64 x.kind,S x.path,.slice a1 x.attrs.length c1,S x.target,.int .i64 x.size,S x.digest,.slice a2 x.exts.length c2] 81)
 clear hB hC d2 d3 d4 d5 d6
 by_cases hk:e.kind=4
 ·have k1:((e.kind:Int)==4)=true:=by simpa using hk
  have Hn:=Qh (show remB e x=under x.path e.path by rw [remB,Qt hk];rfl)
  clear hk
  go_enter Tryz.func80,Tryz.ntmps80
  go_wp2_with fail
  refine (Hu.out _ (hok.alloc _)).mono ?_
  rintro e w1 ⟨rfl,hb1⟩
  go_wp2
  go_ret
  exact ⟨Xay Hn.out.symm,((Qb _ _).alloc (Qn _) _).trans (hb1.mono (by simp))⟩
 ·have k1:((e.kind:Int)==4)=false:=by simpa using hk
  have Hn:=Qh (show remB e x=false by rw [remB,Qf hk];rfl)
  clear hk
  go_enter Tryz.func80,Tryz.ntmps80
  go_wp2
  go_ret
  exact ⟨Xay Hn.out.symm,(Qb _ _).alloc (Qn _) _⟩
set_option maxRecDepth 100000 in
theorem Xjg (I:IH) (hI:Glob I) (x:Ent) (hx:x.path.length≤4294967280) (a1 a2:Option Addr) (c1 c2:Nat) (p:Bytes) (hp:p.length≤4294967280) (W:World) (hW:Ok I W):
 Calls Tryz.prog 86 #[entV x (.slice a1 x.attrs.length c1) (.slice a2 x.exts.length c2),S p] W fun e w'=>e= .returned (.int .i64 (cmpP x.path p))∧Below W.heap.size W w':=by
 have Hc:=Qh (fun w hw=>Xgr I hI x.path p hx hp w hw)
 go_enter Tryz.func86,Tryz.ntmps86
 go_wp2_with fail
 refine (Hc.out _ (hW.alloc _)).mono ?_
 rintro e w1 ⟨rfl,hb1⟩
 go_wp2
 go_ret
 exact ⟨rfl,((Qb _ _).alloc (Qn _) _).trans (hb1.mono (by simp))⟩
def RetB (w:World) (n:Nat) (e:Ending) (w':World):Prop:= ∃b:Bool,e= .returned (.tuple #[.int .i64 n,.bool b])∧Below w.heap.size w w'
set_option maxRecDepth 100000 in
set_option maxHeartbeats 1000000 in
theorem Xcs (I:IH) (hI:Glob I) (v:Value) (l:List Ent) (hv:RdS tEnt I v l) (hn:l.length≤1000000) (hl:SmlT l) (p:Bytes) (hp:p.length≤4294967280) (w:World) (hw:Ok I w):
 Calls Tryz.prog 85 #[v,S p,.func (.func 86) #[] #[]] w (RetB w (bs (notLess l p) 0 l.length)):=by
 obtain ⟨ao,cap,rfl,hcap,hcm,_⟩:=id hv
 have Hv:=Qh hv;clear hv
 have Hl:=Qh hl;clear hl
 have eg:∀args w,(callFunc 86 args).run Tryz.prog w= .ok (.enter 86 args) w:=fun _ _=>by kernel_rfl
 obtain ⟨N,hN⟩:∃N,bs (notLess l p) 0 l.length=N:=⟨_,rfl⟩
 have HN:=Qh hN
 rw [hN]
 clear hN
 go_enter Tryz.func85,Tryz.ntmps85
 go_wp2_with fail
 go_loopw [9,10] (fun s9 s10 wr=> ∃lo hi:Nat,s9= .int .i64 lo∧s10= .int .i64 hi∧lo≤hi∧hi≤l.length∧bs (notLess l p) lo hi=N∧Below w.heap.size w wr) (fun a b _=>(intOf b).toNat-(intOf a).toNat)
 case atStart=>exact ⟨0,l.length,rfl,rfl,Nat.zero_le _,Qn _,HN.out,Qb _ _⟩
 case round=>
  clear HN
  obtain ⟨lo,hi,rfl,rfl,hlh,hil,hr,hb⟩:=hrel
  have Hr:=Qh hr;clear hr
  have hwr:Ok I wr:=hw.below (Qn _) hb
  by_cases hlt:lo<hi
  ·obtain ⟨x,va,vx,b,off,cap',hlx,hvv,⟨c0,c1,c2,c3,c4,c5,c6⟩,h1,h2⟩:=Xd8 Hv.out hwr ((lo+hi) / 2) (by omega)
   cases hvv
   obtain ⟨aa,ca,rfl,_,_,_⟩:=id h1
   obtain ⟨ax,cx,rfl,_,_,_⟩:=id h2
   have Hnl:=Qh (show notLess l p ((lo+hi) / 2)= !(ltP (els x.path) (els p)) by rw [notLess,List.getElem?_eq_getElem (by omega),hlx])
   have Hc:=Qh (fun W hW=>Xjg I hI x (Hl.out x (by rw [←hlx];exact List.getElem_mem _)).1 aa ax ca cx p hp W hW)
   have hj:(0:Int)≤((lo:Int)+(hi:Int)) / 2:=by omega
   have hj2:((lo:Int)+(hi:Int)) / 2<(l.length:Int):=by omega
   have hm:(((lo:Int)+(hi:Int)) / 2).toNat=(lo+hi) / 2:=by omega
   have hm2:(((lo+hi) / 2:Nat):Int)=((lo:Int)+(hi:Int)) / 2:=by omega
   have Hm2:=Qh hm2
   clear hlx h1 h2 hm2
   cases hlp:ltP (els x.path) (els p)
   ·have Hnx:=Qh (show bs (notLess l p) lo ((lo+hi) / 2)=N by rw [←Hr.out];conv=>rhs;rw [bs];rw [dif_pos hlt,Hnl.out,hlp];simp)
    rcases Xrj hlp with hc|hc
    all_goals
     rw [hc] at Hc
     clear hc hlp
     go_wp2_with fail
     refine (Hc.out _ hwr).mono ?_
     rintro e w1 ⟨rfl,hb1⟩
     go_wp2
     go_roundw
     case rel=>exact ⟨lo,(lo+hi) / 2,rfl,by rw [Hm2.out],by omega,by omega,Hnx.out,hb.trans (hb1.mono hb.size)⟩
     case measure=>simp [intOf];omega
   ·have Hnx:=Qh (show bs (notLess l p) ((lo+hi) / 2+1) hi=N by rw [←Hr.out];conv=>rhs;rw [bs];rw [dif_pos hlt,Hnl.out,hlp];simp)
    rw [Xri hlp] at Hc
    clear hlp
    go_wp2_with fail
    refine (Hc.out _ hwr).mono ?_
    rintro e w1 ⟨rfl,hb1⟩
    go_wp2
    go_roundw
    case rel=>exact ⟨(lo+hi) / 2+1,hi,(by rw [←Hm2.out];go_num),rfl,by omega,by omega,Hnx.out,hb.trans (hb1.mono hb.size)⟩
    case measure=>simp [intOf];omega
  ·have Hlo:=Qh (show lo=N by rw [←Hr.out,bs,dif_neg hlt])
   by_cases hin:lo<l.length
   ·obtain ⟨x,va,vx,b,off,cap',hlx,hvv,⟨c0,c1,c2,c3,c4,c5,c6⟩,h1,h2⟩:=Xd8 Hv.out hwr lo hin
    cases hvv
    obtain ⟨aa,ca,rfl,_,_,_⟩:=id h1
    obtain ⟨ax,cx,rfl,_,_,_⟩:=id h2
    have Hc:=Qh (fun W hW=>Xjg I hI x (Hl.out x (by rw [←hlx];exact List.getElem_mem _)).1 aa ax ca cx p hp W hW)
    have hd:decide (lo<l.length)=true:=Qt hin
    generalize cmpP x.path p=cc at Hc
    clear hlx h1 h2
    go_wp2_with fail
    refine (Hc.out _ hwr).mono ?_
    rintro e w1 ⟨rfl,hb1⟩
    go_wp2
    go_ret2
    rw [←Hlo.out]
    exact ⟨_,rfl,hb.trans (hb1.mono hb.size)⟩
   ·have hd:decide (lo<l.length)=false:=Qf hin
    go_wp2
    go_ret2
    rw [←Hlo.out]
    exact ⟨_,rfl,hb⟩
end Go.Proofs.YtmdfjnhfhidmhaaGreatDoor
