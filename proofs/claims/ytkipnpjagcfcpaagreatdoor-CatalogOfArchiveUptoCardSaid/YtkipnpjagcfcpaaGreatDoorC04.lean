/-
  Walks and laws that the claim's theorem uses: texts PtE PtF, joined; comments out. Conditions: as each theorem says.
-/
import Derived.Test.YtkipnpjagcfcpaaGreatDoorC03
set_option linter.all false
namespace Go.Proofs.YtkipnpjagcfcpaaGreatDoor
open Go.RowKit
def remB (e:Ent) (x:Ent):Bool:=decide (e.kind=4)&&under x.path e.path
set_option maxRecDepth 100000 in
set_option maxHeartbeats 400000 in
theorem Xld (I:IH) (hI:Glob I) (e:Ent) (hel:e.path.length≤4294967280) (be:Nat) (ve vy:Value) (l:List Ent) (hl:SmlT l) (C:World→Prop) (hC:∀W,C W→Ok I W∧EntB W be e ve vy):
 PredE 195 #[.pointer (some ⟨be,0,none⟩)] l (remB e) C:=by
 intro x hx a1 a2 c1 c2 W hW
 obtain ⟨hok,hB⟩:=hC W hW
 have Hu:=Qh (fun w hw=>Xja I hI x.path e.path (hl x hx).1 hel w hw)
 obtain ⟨c0,d1,d2,d3,d4,d5,d6⟩:=EntB.past hB (.cells #[.int .i64 x.kind,S x.path,.slice a1 x.attrs.length c1,S x.target,.int .i64 x.size,S x.digest,.slice a2 x.exts.length c2] 35)
 clear hB hC d2 d3 d4 d5 d6
 by_cases hk:e.kind=4
 ·have k1:((e.kind:Int)==4)=true:=by simpa using hk
  have Hn:=Qh (show remB e x=under x.path e.path by rw [remB,Qt hk];rfl)
  clear hk
  go_enter Tryz.func195,Tryz.ntmps195
  go_wp2_with fail
  refine (Hu.out _ (hok.alloc _)).mono ?_
  rintro e w1 ⟨rfl,hb1⟩
  go_wp2
  go_ret
  exact ⟨Xa2 Hn.out.symm,((Qb _ _).alloc (Qn _) _).trans (hb1.mono (by simp))⟩
 ·have k1:((e.kind:Int)==4)=false:=by simpa using hk
  have Hn:=Qh (show remB e x=false by rw [remB,Qf hk];rfl)
  clear hk
  go_enter Tryz.func195,Tryz.ntmps195
  go_wp2
  go_ret
  exact ⟨Xa2 Hn.out.symm,(Qb _ _).alloc (Qn _) _⟩
set_option maxRecDepth 100000 in
theorem Xlc (I:IH) (hI:Glob I) (x:Ent) (hx:x.path.length≤4294967280) (a1 a2:Option Addr) (c1 c2:Nat) (p:Bytes) (hp:p.length≤4294967280) (W:World) (hW:Ok I W):
 Calls Tryz.prog 199 #[entV x (.slice a1 x.attrs.length c1) (.slice a2 x.exts.length c2),S p] W fun e w'=>e= .returned (.int .i64 (cmpP x.path p))∧Below W.heap.size W w':=by
 have Hc:=Qh (fun w hw=>Xid I hI x.path p hx hp w hw)
 go_enter Tryz.func199,Tryz.ntmps199
 go_wp2_with fail
 refine (Hc.out _ (hW.alloc _)).mono ?_
 rintro e w1 ⟨rfl,hb1⟩
 go_wp2
 go_ret
 exact ⟨rfl,((Qb _ _).alloc (Qn _) _).trans (hb1.mono (by simp))⟩
def RetB (w:World) (n:Nat) (e:Ending) (w':World):Prop:= ∃b:Bool,e= .returned (.tuple #[.int .i64 n,.bool b])∧Below w.heap.size w w'
set_option maxRecDepth 100000 in
set_option maxHeartbeats 1000000 in
theorem Xdp (I:IH) (hI:Glob I) (v:Value) (l:List Ent) (hv:RdS tEnt I v l) (hn:l.length≤1000000) (hl:SmlT l) (p:Bytes) (hp:p.length≤4294967280) (w:World) (hw:Ok I w):
 Calls Tryz.prog 198 #[v,S p,.func (.func 199) #[] #[]] w (RetB w (bs (notLess l p) 0 l.length)):=by
 obtain ⟨ao,cap,rfl,hcap,hcm,_⟩:=id hv
 have Hv:=Qh hv;clear hv
 have Hl:=Qh hl;clear hl
 have eg:∀args w,(callFunc 199 args).run Tryz.prog w= .ok (.enter 199 args) w:=fun _ _=>by kernel_rfl
 obtain ⟨N,hN⟩:∃N,bs (notLess l p) 0 l.length=N:=⟨_,rfl⟩
 have HN:=Qh hN
 rw [hN]
 clear hN
 go_enter Tryz.func198,Tryz.ntmps198
 go_wp2_with fail
 go_loopw [9,10] (fun s9 s10 wr=> ∃lo hi:Nat,s9= .int .i64 lo∧s10= .int .i64 hi∧lo≤hi∧hi≤l.length∧bs (notLess l p) lo hi=N∧Below w.heap.size w wr) (fun a b _=>(intOf b).toNat-(intOf a).toNat)
 case atStart=>exact ⟨0,l.length,rfl,rfl,Nat.zero_le _,Qn _,HN.out,Qb _ _⟩
 case round=>
  clear HN
  obtain ⟨lo,hi,rfl,rfl,hlh,hil,hr,hb⟩:=hrel
  have Hr:=Qh hr;clear hr
  have hwr:Ok I wr:=hw.below (Qn _) hb
  by_cases hlt:lo<hi
  ·obtain ⟨x,va,vx,b,off,cap',hlx,hvv,⟨c0,c1,c2,c3,c4,c5,c6⟩,h1,h2⟩:=Xe3 Hv.out hwr ((lo+hi) / 2) (by omega)
   cases hvv
   obtain ⟨aa,ca,rfl,_,_,_⟩:=id h1
   obtain ⟨ax,cx,rfl,_,_,_⟩:=id h2
   have Hnl:=Qh (show notLess l p ((lo+hi) / 2)= !(ltP (els x.path) (els p)) by rw [notLess,List.getElem?_eq_getElem (by omega),hlx])
   have Hc:=Qh (fun W hW=>Xlc I hI x (Hl.out x (by rw [←hlx];exact List.getElem_mem _)).1 aa ax ca cx p hp W hW)
   have hj:(0:Int)≤((lo:Int)+(hi:Int)) / 2:=by omega
   have hj2:((lo:Int)+(hi:Int)) / 2<(l.length:Int):=by omega
   have hm:(((lo:Int)+(hi:Int)) / 2).toNat=(lo+hi) / 2:=by omega
   have hm2:(((lo+hi) / 2:Nat):Int)=((lo:Int)+(hi:Int)) / 2:=by omega
   have Hm2:=Qh hm2
   clear hlx h1 h2 hm2
   cases hlp:ltP (els x.path) (els p)
   ·have Hnx:=Qh (show bs (notLess l p) lo ((lo+hi) / 2)=N by rw [←Hr.out];conv=>rhs;rw [bs];rw [dif_pos hlt,Hnl.out,hlp];simp)
    rcases Xtr hlp with hc|hc
    all_goals
     rw [hc] at Hc
     clear hc hlp
     go_wp2_with fail
     refine (Hc.out _ hwr).mono ?_
     rintro e w1 ⟨rfl,hb1⟩
     go_wp2
     go_roundw
     case rel=>exact ⟨lo,(lo+hi) / 2,rfl,by rw [Hm2.out],by omega,by omega,Hnx.out,hb.trans (hb1.mono hb.size)⟩
     case measure=>simp [intOf];omega
   ·have Hnx:=Qh (show bs (notLess l p) ((lo+hi) / 2+1) hi=N by rw [←Hr.out];conv=>rhs;rw [bs];rw [dif_pos hlt,Hnl.out,hlp];simp)
    rw [Xtq hlp] at Hc
    clear hlp
    go_wp2_with fail
    refine (Hc.out _ hwr).mono ?_
    rintro e w1 ⟨rfl,hb1⟩
    go_wp2
    go_roundw
    case rel=>exact ⟨(lo+hi) / 2+1,hi,(by rw [←Hm2.out];go_num),rfl,by omega,by omega,Hnx.out,hb.trans (hb1.mono hb.size)⟩
    case measure=>simp [intOf];omega
  ·have Hlo:=Qh (show lo=N by rw [←Hr.out,bs,dif_neg hlt])
   by_cases hin:lo<l.length
   ·obtain ⟨x,va,vx,b,off,cap',hlx,hvv,⟨c0,c1,c2,c3,c4,c5,c6⟩,h1,h2⟩:=Xe3 Hv.out hwr lo hin
    cases hvv
    obtain ⟨aa,ca,rfl,_,_,_⟩:=id h1
    obtain ⟨ax,cx,rfl,_,_,_⟩:=id h2
    have Hc:=Qh (fun W hW=>Xlc I hI x (Hl.out x (by rw [←hlx];exact List.getElem_mem _)).1 aa ax ca cx p hp W hW)
    have hd:decide (lo<l.length)=true:=Qt hin
    generalize cmpP x.path p=cc at Hc
    clear hlx h1 h2
    go_wp2_with fail
    refine (Hc.out _ hwr).mono ?_
    rintro e w1 ⟨rfl,hb1⟩
    go_wp2
    go_ret2
    rw [←Hlo.out]
    exact ⟨_,rfl,hb.trans (hb1.mono hb.size)⟩
   ·have hd:decide (lo<l.length)=false:=Qf hin
    go_wp2
    go_ret2
    rw [←Hlo.out]
    exact ⟨_,rfl,hb⟩
theorem Xo9 {t:List Ent} {e:Ent} (h:entErr e≠0):applyT t e=([],entErr e):=by rw [applyT,if_pos h]
theorem Xio {t:List Ent} {e:Ent} (h:entErr e=0) (hk:3<e.kind) (hg:¬(getT t e.path=none∧e.path≠ [])):applyT t e=(t.filter fun x=> !(remB e x),0):=by
 rw [applyT,if_neg (by omega),if_pos hk,if_neg hg]
 by_cases h4:e.kind=4
 ·rw [if_pos h4]
  congr 2
  funext x
  rw [remB,Qt h4,Bool.true_and]
 ·rw [if_neg h4]
  congr 1
  symm
  exact List.filter_eq_self.2 fun x _=>by rw [remB,Qf h4];rfl
theorem Xmy {t:List Ent} {e:Ent} (h:entErr e=0) (hk:3<e.kind) (hg:getT t e.path=none∧e.path≠ []):applyT t e=([],9):=by
 rw [applyT,if_neg (by omega),if_pos hk,if_pos hg]
theorem Xo8 {t:List Ent} {e:Ent} (h:entErr e=0) (hk:¬3<e.kind) (hd:dirErr t (upP e.path)≠0):applyT t e=([],dirErr t (upP e.path)):=by
 rw [applyT,if_neg (by omega),if_neg hk,if_pos hd]
theorem Xmw {t:List Ent} {e y:Ent} (h:entErr e=0) (hk:¬3<e.kind) (hd:dirErr t (upP e.path)=0) (hy:getT t e.path=some y):applyT t e=if (y.kind==2) != (e.kind==2) then ([],8) else (putT t e,0):=by
 rw [applyT,if_neg (by omega),if_neg hk,if_neg (by omega),hy]
theorem Xmx {t:List Ent} {e:Ent} (h:entErr e=0) (hk:¬3<e.kind) (hd:dirErr t (upP e.path)=0) (hy:getT t e.path=none):applyT t e=if 5000≤t.length then ([],6) else (putT t e,0):=by
 rw [applyT,if_neg (by omega),if_neg hk,if_neg (by omega),hy]
theorem Xqy {t:List Ent} {p:Bytes} {i:Nat} (hi:i<t.length) (hp:isAt p t[i]=true) (hn:(t.take i).any (isAt p)=false):getT t p=some t[i]:=by
 have:=Xk1 hi hp hn
 unfold getE at this
 cases h:getT t p with
 |none=>rw [h] at this;simp at this
 |some x=>rw [h] at this;simp at this;rw [this]
theorem Xqx {t:List Ent} {p:Bytes} (hn:t.any (isAt p)=false):getT t p=none:=by
 have:=Xk2 hn
 unfold getE at this
 cases h:getT t p with
 |none=>rfl
 |some x=>rw [h] at this;simp at this
theorem EntB.own {w w':World} {n:Nat} {e:Ent} {va vx:Value} {row:Option Nat} (h:EntB w n e va vx) (hg:w.grownBy w' row) (hne:row≠some n):EntB w' n e va vx:=
 ⟨Xah hg hne h.c0,Xah hg hne h.c1,Xah hg hne h.c2,Xah hg hne h.c3,Xah hg hne h.c4,Xah hg hne h.c5,Xah hg hne h.c6⟩
theorem LiesL.set {I:IH} {xs cs:List Value} {l:List Ent} (h:LiesL tEnt I xs l) {i:Nat} (hi:i<l.length) {x:Ent} (hx:tEnt.rd I cs x):LiesL tEnt I (xs.take (i*7)++cs++xs.drop (i*7+7)) (l.set i x):=by
 have h1:=((h.take i).append (LiesL.one hx)).append (h.drop (i+1))
 have hs:tEnt.size=7:=rfl
 rw [hs,show (i+1)*7=i*7+7 by omega] at h1
 have e:l.set i x=l.take i++ [x]++l.drop (i+1):=by
  rw [List.set_eq_take_append_cons_drop,if_pos hi]
  simp
 rw [e]
 exact h1
theorem Xe0 (cur:Array Value) (o m:Nat) (cs:List Value) (h:o+cs.length≤m) (hm:m≤cur.size):(over cur o cs).toList.take m=(cur.toList.take m).take o++cs++(cur.toList.take m).drop (o+cs.length):=by
 simp only [over]
 rw [List.take_append,List.take_of_length_le (by simp;omega)]
 congr 1
 ·rw [List.take_take,Nat.min_eq_left (by omega)]
 ·rw [List.drop_take]
  congr 1
  simp
  omega
set_option maxRecDepth 100000 in
set_option maxHeartbeats 4000000 in
theorem Xnn (I:IH) (hI:Glob I) (v:Value) (t:List Ent) (hv:RdS tEnt I v t) (hs:SmlT t) (hsr:SrtT t) (hn:t.length≤100000) (e:Ent) (va vx:Value) (hva:RdS tAt I va e.attrs) (hvx:RdS tXt I vx e.exts) (hwf:e.Wf) (hpl:e.path.length≤4294967280) (htl:e.target.length≤4294967280) (w:World) (hw:Ok I w):
 Calls Tryz.prog 129 #[v,entV e va vx] w (RetL tEnt I w (applyT t e).1 (applyT t e).2):=by
 have hlen:=hv.len_le
 have Hck:=Qh (fun w hw=>Xe4 I hI e va vx hva hvx hwf hpl htl w hw)
 obtain ⟨ao,cap,rfl,hcap,hcm,_⟩:=id hv
 have Hv:=Qh hv
 obtain ⟨aa,ca,rfl,_,_,_⟩:=id hva
 obtain ⟨ax,cx,rfl,_,_,_⟩:=id hvx
 have Hrd:=Qh (show tEnt.rd I (entCs e (.slice aa e.attrs.length ca) (.slice ax e.exts.length cx)) e from ⟨_,_,rfl,hva,hvx⟩)
 have Hs:=Qh hs
 have Hsr:=Qh hsr
 clear hv hva hvx hs hsr
 by_cases h0:entErr e=0
 case neg=>
  have Ha:=Qh (Xo9 (t:=t) h0)
  obtain ⟨q,hq⟩:∃q,entErr e=q:=⟨_,rfl⟩
  have hn0:(q != 0)=true:=by rw [←hq];simpa using h0
  rw [hq] at Hck Ha
  clear hq h0
  go_enter Tryz.func129,Tryz.ntmps129
  go_wp2_with fail
  refine (Hck.out _ (hw.alloc _)).mono ?_
  rintro e1 w1 ⟨rfl,hb1⟩
  have HBx:=Qh (entB rfl hb1)
  have hok1:Ok I w1:=(hw.alloc _).below (Qn _) hb1
  have hsz1:w.heap.size<w1.heap.size:=by have:=hb1.size;simp at this;omega
  have hb1':Below w.heap.size w w1:=((Qb _ _).alloc (Qn _) _).trans (hb1.mono (by simp))
  clear hb1
  go_wp2
  go_ret2
  rw [Ha.out]
  exact ⟨_,I,rfl,hb1',Ext.refl _ _,hok1,RdS.nil _ _⟩
 have hke:=Xb6 h0
 have H0:=Qh h0
 rw [h0] at Hck
 have Hit:=Qh (Xrb e.kind)
 have Hfd:=Qh (fun w hw=>Xrc I _ t Hv.out e.path w hw)
 have hix:=Xcd t (isAt e.path)
 generalize idxL t (isAt e.path)=ix at Hfd hix
 clear h0
 by_cases hk3:3<e.kind
 ·have hin:inT e.kind=false:=by
   cases h:inT e.kind with
   |false=>rfl
   |true=>have:=inT_iff.1 h;omega
  rw [hin] at Hit
  have Hk3:=Qh hk3
  clear hin
  have hmain:(∃i:Nat,ix=i∧i<t.length∧getT t e.path≠none)∨(ix= -1∧getT t e.path=none):=by
   rcases hix with ⟨i,hi,e1,e2,e3⟩|⟨e1,e2⟩
   ·exact .inl ⟨i,e1,hi,by rw [Xqy hi e2 e3];simp⟩
   ·exact .inr ⟨e1,Xqx e2⟩
  clear hix
  have hnot:(∃i:Nat,ix=i∧i<t.length∧getT t e.path≠none)∨(ix= -1∧e.path= [])∨(ix= -1∧getT t e.path=none∧e.path≠ []):=by
   rcases hmain with h|⟨h1,h2⟩
   ·exact .inl h
   ·by_cases hp:e.path= []
    ·exact .inr (.inl ⟨h1,hp⟩)
    ·exact .inr (.inr ⟨h1,h2,hp⟩)
  clear hmain
  rcases hnot with ⟨i,rfl,hi,hg⟩|⟨rfl,hp⟩|⟨rfl,hg,hp⟩
  ·have Ha:=Qh (Xio (t:=t) H0.out Hk3.out fun h=>hg h.1)
   clear hg
   go_enter Tryz.func129,Tryz.ntmps129
   go_wp2_with fail
   refine (Hck.out _ (hw.alloc _)).mono ?_
   rintro e1 w1 ⟨rfl,hb1⟩
   have HBx:=Qh (entB rfl hb1)
   have hok1:Ok I w1:=(hw.alloc _).below (Qn _) hb1
   have hsz1:w.heap.size<w1.heap.size:=by have:=hb1.size;simp at this;omega
   have hb1':Below w.heap.size w w1:=((Qb _ _).alloc (Qn _) _).trans (hb1.mono (by simp))
   clear hb1
   obtain ⟨c0,c1,c2,c3,c4,c5,c6⟩:=HBx.out
   go_wp2_with fail
   refine (Hfd.out _ hok1).mono ?_
   rintro e2 w2 ⟨rfl,hb2⟩
   have HBy:=Qh (HBx.out.thru hb2)
   have hok2:Ok I w2:=hok1.below (Qn _) hb2
   have hsz2:w.heap.size<w2.heap.size:=by have:=hb2.size;omega
   have hb2':=hb1'.trans (hb2.mono hb1'.size)
   clear hb2 hb1' hsz1 hok1 c0 c1 c2 c3 c4 c5 c6 HBx
   obtain ⟨c0,c1,c2,c3,c4,c5,c6⟩:=HBy.out
   go_wp2_with fail
   refine (Hit.out _).mono ?_
   rintro e3 w3 ⟨rfl,rfl⟩
   have Hcl:=Qh (Xbq I _ t Hv.out w2 hok2 (by omega))
   have hfr:∀b,w2.heap.size≤b→I b=none:=fun b hb=>hok2.fresh hb
   have Hfr:=Qh hfr
   clear hfr
   go_wp2_with fail
   refine Hcl.out.mono ?_
   rintro e4 w4 ⟨v4,rfl,hown4,hb4⟩
   have hok4:Ok I w4:=hok2.below (Qn _) hb4
   have hb4':=hb2'.trans (hb4.mono hb2'.size)
   have HB4:=Qh (HBy.out.thru hb4)
   have Hown4:=Qh hown4
   have Hsz4:=Qh hb4.size
   have Hdel:=Qh (Xdo I w2.heap.size v4 t w4 Hown4.out (by omega) 195 #[.pointer (some ⟨w.heap.size,0,none⟩)] (remB e) hok4 Hfr.out Hsz4.out (fun _ _=>by kernel_rfl) (Xld I hI e hpl w.heap.size _ _ t Hs.out _ fun W hW=>⟨hok4.grown hW (fun g hg=>Hfr.out g (Hown4.out.own_ge hg)),HB4.out.own hW (Hown4.out.ne_lt hsz2)⟩))
   clear hown4 hb4 c0 c1 c2 c3 c4 c5 c6
   go_wp2_with fail
   refine Hdel.out.mono ?_
   rintro e5 w5 ⟨v5,rfl,hown5,hg5⟩
   have Hown5:=Qh hown5
   have Hg5:=Qh hg5
   clear hown5 hg5
   go_wp2
   go_ret2
   rw [Ha.out]
   have hb5:=Below.own hb4' Hg5.out Hown4.out (Nat.le_of_lt hsz2) Hsz4.out
   have hok5:Ok I w5:=Ok.own hok4 Hg5.out Hown4.out Hfr.out
   obtain ⟨I',hI1,hI2,hI3,_⟩:=Hown5.out.freeze hok5 Hfr.out
   exact ⟨_,I',rfl,hb5,hI1.mono (Nat.le_of_lt hsz2),hI2,hI3⟩
  ·have Ha:=Qh (Xio (t:=t) H0.out Hk3.out fun h=>h.2 hp)
   obtain ⟨p1,p2,p3,p4⟩:=Xdf hp
   clear hp
   go_enter Tryz.func129,Tryz.ntmps129
   go_wp2_with fail
   refine (Hck.out _ (hw.alloc _)).mono ?_
   rintro e1 w1 ⟨rfl,hb1⟩
   have HBx:=Qh (entB rfl hb1)
   have hok1:Ok I w1:=(hw.alloc _).below (Qn _) hb1
   have hsz1:w.heap.size<w1.heap.size:=by have:=hb1.size;simp at this;omega
   have hb1':Below w.heap.size w w1:=((Qb _ _).alloc (Qn _) _).trans (hb1.mono (by simp))
   clear hb1
   obtain ⟨c0,c1,c2,c3,c4,c5,c6⟩:=HBx.out
   go_wp2_with fail
   refine (Hfd.out _ hok1).mono ?_
   rintro e2 w2 ⟨rfl,hb2⟩
   have HBy:=Qh (HBx.out.thru hb2)
   have hok2:Ok I w2:=hok1.below (Qn _) hb2
   have hsz2:w.heap.size<w2.heap.size:=by have:=hb2.size;omega
   have hb2':=hb1'.trans (hb2.mono hb1'.size)
   clear hb2 hb1' hsz1 hok1 c0 c1 c2 c3 c4 c5 c6 HBx
   obtain ⟨c0,c1,c2,c3,c4,c5,c6⟩:=HBy.out
   go_wp2_with fail
   refine (Hit.out _).mono ?_
   rintro e3 w3 ⟨rfl,rfl⟩
   have Hcl:=Qh (Xbq I _ t Hv.out w2 hok2 (by omega))
   have hfr:∀b,w2.heap.size≤b→I b=none:=fun b hb=>hok2.fresh hb
   have Hfr:=Qh hfr
   clear hfr
   go_wp2_with fail
   refine Hcl.out.mono ?_
   rintro e4 w4 ⟨v4,rfl,hown4,hb4⟩
   have hok4:Ok I w4:=hok2.below (Qn _) hb4
   have hb4':=hb2'.trans (hb4.mono hb2'.size)
   have HB4:=Qh (HBy.out.thru hb4)
   have Hown4:=Qh hown4
   have Hsz4:=Qh hb4.size
   have Hdel:=Qh (Xdo I w2.heap.size v4 t w4 Hown4.out (by omega) 195 #[.pointer (some ⟨w.heap.size,0,none⟩)] (remB e) hok4 Hfr.out Hsz4.out (fun _ _=>by kernel_rfl) (Xld I hI e hpl w.heap.size _ _ t Hs.out _ fun W hW=>⟨hok4.grown hW (fun g hg=>Hfr.out g (Hown4.out.own_ge hg)),HB4.out.own hW (Hown4.out.ne_lt hsz2)⟩))
   clear hown4 hb4 c0 c1 c2 c3 c4 c5 c6
   go_wp2_with fail
   refine Hdel.out.mono ?_
   rintro e5 w5 ⟨v5,rfl,hown5,hg5⟩
   have Hown5:=Qh hown5
   have Hg5:=Qh hg5
   clear hown5 hg5
   go_wp2
   go_ret2
   rw [Ha.out]
   have hb5:=Below.own hb4' Hg5.out Hown4.out (Nat.le_of_lt hsz2) Hsz4.out
   have hok5:Ok I w5:=Ok.own hok4 Hg5.out Hown4.out Hfr.out
   obtain ⟨I',hI1,hI2,hI3,_⟩:=Hown5.out.freeze hok5 Hfr.out
   exact ⟨_,I',rfl,hb5,hI1.mono (Nat.le_of_lt hsz2),hI2,hI3⟩
  ·have Ha:=Qh (Xmy (t:=t) H0.out Hk3.out ⟨hg,hp⟩)
   obtain ⟨p1,p2,p3,p4⟩:=Xde hp
   clear hp hg
   go_enter Tryz.func129,Tryz.ntmps129
   go_wp2_with fail
   refine (Hck.out _ (hw.alloc _)).mono ?_
   rintro e1 w1 ⟨rfl,hb1⟩
   have HBx:=Qh (entB rfl hb1)
   have hok1:Ok I w1:=(hw.alloc _).below (Qn _) hb1
   have hsz1:w.heap.size<w1.heap.size:=by have:=hb1.size;simp at this;omega
   have hb1':Below w.heap.size w w1:=((Qb _ _).alloc (Qn _) _).trans (hb1.mono (by simp))
   clear hb1
   obtain ⟨c0,c1,c2,c3,c4,c5,c6⟩:=HBx.out
   go_wp2_with fail
   refine (Hfd.out _ hok1).mono ?_
   rintro e2 w2 ⟨rfl,hb2⟩
   have HBy:=Qh (HBx.out.thru hb2)
   have hok2:Ok I w2:=hok1.below (Qn _) hb2
   have hsz2:w.heap.size<w2.heap.size:=by have:=hb2.size;omega
   have hb2':=hb1'.trans (hb2.mono hb1'.size)
   clear hb2 hb1' hsz1 hok1 c0 c1 c2 c3 c4 c5 c6 HBx
   obtain ⟨c0,c1,c2,c3,c4,c5,c6⟩:=HBy.out
   go_wp2_with fail
   refine (Hit.out _).mono ?_
   rintro e3 w3 ⟨rfl,rfl⟩
   go_wp2
   go_ret2
   rw [Ha.out]
   exact ⟨_,I,rfl,hb2',Ext.refl _ _,hok2,RdS.nil _ _⟩
 ·have hin:inT e.kind=true:=inT_iff.2 (by omega)
  rw [hin] at Hit
  have Hk3:=Qh hk3
  have hpne:e.path≠ []:=fun hp=>by have:=hke.2.2.2 hp;omega
  have Hpar:=Qh (fun w hw=>Xqf I hI e.path hpl w hw)
  rw [Xux hke.2.2.1 hpne] at Hpar
  have Hdir:=Qh (fun w hw=>Xlb I _ t Hv.out (upP e.path) w hw)
  clear hin hpne
  by_cases hde:dirErr t (upP e.path)=0
  case neg=>
   have Ha:=Qh (Xo8 (t:=t) H0.out Hk3.out hde)
   obtain ⟨q,hq⟩:∃q,dirErr t (upP e.path)=q:=⟨_,rfl⟩
   have hn0:(q != 0)=true:=by rw [←hq];simpa using hde
   rw [hq] at Hdir Ha
   clear hq hde hix
   go_enter Tryz.func129,Tryz.ntmps129
   go_wp2_with fail
   refine (Hck.out _ (hw.alloc _)).mono ?_
   rintro e1 w1 ⟨rfl,hb1⟩
   have HBx:=Qh (entB rfl hb1)
   have hok1:Ok I w1:=(hw.alloc _).below (Qn _) hb1
   have hsz1:w.heap.size<w1.heap.size:=by have:=hb1.size;simp at this;omega
   have hb1':Below w.heap.size w w1:=((Qb _ _).alloc (Qn _) _).trans (hb1.mono (by simp))
   clear hb1
   obtain ⟨c0,c1,c2,c3,c4,c5,c6⟩:=HBx.out
   go_wp2_with fail
   refine (Hfd.out _ hok1).mono ?_
   rintro e2 w2 ⟨rfl,hb2⟩
   have HBy:=Qh (HBx.out.thru hb2)
   have hok2:Ok I w2:=hok1.below (Qn _) hb2
   have hsz2:w.heap.size<w2.heap.size:=by have:=hb2.size;omega
   have hb2':=hb1'.trans (hb2.mono hb1'.size)
   clear hb2 hb1' hsz1 hok1 c0 c1 c2 c3 c4 c5 c6 HBx
   obtain ⟨c0,c1,c2,c3,c4,c5,c6⟩:=HBy.out
   go_wp2_with fail
   refine (Hit.out _).mono ?_
   rintro e3 w3 ⟨rfl,rfl⟩
   go_wp2_with fail
   refine (Hpar.out _ hok2).mono ?_
   rintro e4 w4 ⟨rfl,hb4⟩
   have hok4:Ok I w4:=hok2.below (Qn _) hb4
   have hb4':=hb2'.trans (hb4.mono hb2'.size)
   have HB4:=Qh (HBy.out.thru hb4)
   have hsz4:w.heap.size<w4.heap.size:=by have h2:=hb4.size;omega
   clear hb4 c0 c1 c2 c3 c4 c5 c6
   go_wp2_with fail
   refine (Hdir.out _ hok4).mono ?_
   rintro e5 w5 ⟨rfl,hb5⟩
   have hok5:Ok I w5:=hok4.below (Qn _) hb5
   have hb5':=hb4'.trans (hb5.mono hb4'.size)
   have HB5:=Qh (HB4.out.thru hb5)
   have hsz5:w.heap.size<w5.heap.size:=by have h2:=hb5.size;omega
   clear hb5 hb4'
   go_wp2
   go_ret2
   rw [Ha.out]
   exact ⟨_,I,rfl,hb5',Ext.refl _ _,hok5,RdS.nil _ _⟩
  have Hde:=Qh hde
  rw [hde] at Hdir
  clear hde
  rcases hix with ⟨i,hi,hix,e2,e3⟩|⟨hix,e2⟩
  ·subst hix
   have hgy:=Xqy hi e2 e3
   have hpy:t[i].path=e.path:=by simpa [isAt] using e2
   obtain ⟨y,hy⟩:∃y,t[i]=y:=⟨_,rfl⟩
   rw [hy] at hgy
   have Hy:=Qh hy
   have Hput:=Qh (Xsv Hsr.out e hi hpy)
   obtain ⟨b1,hb1⟩:∃b,((y.kind:Int)==2)=b:=⟨_,rfl⟩
   obtain ⟨b2,hb2⟩:∃b,((e.kind:Int)==2)=b:=⟨_,rfl⟩
   have Ha:=Qh (Xmw H0.out Hk3.out Hde.out hgy)
   rw [hb1,hb2] at Ha
   clear e2 e3 hy hgy hpy
   cases b1<;>cases b2
   ·have Ha2:=Qh (show applyT t e=(putT t e,0) by rw [Ha.out];rfl)
    have hi7:(Tryz.prog.info? 35).map (·.size)=some 7:=by kernel_rfl
    have Hi7:=Qh hi7
    clear hi7
    go_enter Tryz.func129,Tryz.ntmps129
    go_wp2_with fail
    refine (Hck.out _ (hw.alloc _)).mono ?_
    rintro e1 w1 ⟨rfl,hb1⟩
    have HBx:=Qh (entB rfl hb1)
    have hok1:Ok I w1:=(hw.alloc _).below (Qn _) hb1
    have hsz1:w.heap.size<w1.heap.size:=by have:=hb1.size;simp at this;omega
    have hb1':Below w.heap.size w w1:=((Qb _ _).alloc (Qn _) _).trans (hb1.mono (by simp))
    clear hb1
    obtain ⟨c0,c1,c2,c3,c4,c5,c6⟩:=HBx.out
    go_wp2_with fail
    refine (Hfd.out _ hok1).mono ?_
    rintro e2 w2 ⟨rfl,hb2⟩
    have HBy:=Qh (HBx.out.thru hb2)
    have hok2:Ok I w2:=hok1.below (Qn _) hb2
    have hsz2:w.heap.size<w2.heap.size:=by have:=hb2.size;omega
    have hb2':=hb1'.trans (hb2.mono hb1'.size)
    clear hb2 hb1' hsz1 hok1 c0 c1 c2 c3 c4 c5 c6 HBx
    obtain ⟨c0,c1,c2,c3,c4,c5,c6⟩:=HBy.out
    go_wp2_with fail
    refine (Hit.out _).mono ?_
    rintro e3 w3 ⟨rfl,rfl⟩
    go_wp2_with fail
    refine (Hpar.out _ hok2).mono ?_
    rintro e4 w4 ⟨rfl,hb4⟩
    have hok4:Ok I w4:=hok2.below (Qn _) hb4
    have hb4':=hb2'.trans (hb4.mono hb2'.size)
    have HB4:=Qh (HBy.out.thru hb4)
    have hsz4:w.heap.size<w4.heap.size:=by have h2:=hb4.size;omega
    clear hb4 c0 c1 c2 c3 c4 c5 c6
    go_wp2_with fail
    refine (Hdir.out _ hok4).mono ?_
    rintro e5 w5 ⟨rfl,hb5⟩
    have hok5:Ok I w5:=hok4.below (Qn _) hb5
    have hb5':=hb4'.trans (hb5.mono hb4'.size)
    have HB5:=Qh (HB4.out.thru hb5)
    have hsz5:w.heap.size<w5.heap.size:=by have h2:=hb5.size;omega
    clear hb5 hb4'
    have Hcl:=Qh (Xbq I _ t Hv.out w5 hok5 (by omega))
    have hfr:∀b,w5.heap.size≤b→I b=none:=fun b hb=>hok5.fresh hb
    have Hfr:=Qh hfr
    clear hfr
    go_wp2_with fail
    refine Hcl.out.mono ?_
    rintro e6 w6 ⟨v6,rfl,hown6,hb6⟩
    have hok6:Ok I w6:=hok5.below (Qn _) hb6
    have hb6':=hb5'.trans (hb6.mono hb5'.size)
    have HB6:=Qh (HB5.out.thru hb6)
    have Hown6:=Qh hown6
    have Hsz6:=Qh hb6.size
    clear hown6 hb6 hb5'
    obtain ⟨y',va',vx',b,off,cap',hly,hvv,⟨y0,_,_,_,_,_,_⟩,_,_⟩:=Xe3 Hv.out hok6 i hi
    cases hvv
    have hyy:y'=y:=by rw [←hly,Hy.out]
    subst hyy
    have g0:=cell_regrown HB6.out.c0
    have g1:=cell_regrown y0
    clear hly
    go_wp2_with fail
    refine wp_region_quiet_below (by kernel_rfl) (by kernel_rfl) ?_
    repeat (go_big_quiet_step ((fail)))
    refine wpQuiet_nil ?_
    intro w7 hwq
    have hb7:Below (w6).heap.size (w6) w7:=by
     obtain ⟨pq,rfl⟩:=hwq
     exact below_regrown _ _ _
    clear hwq
    have hok7:Ok I w7:=hok6.below (Qn _) hb7
    have hb7':=hb6'.trans (hb7.mono hb6'.size)
    have hown7:=Hown6.out.below hb7
    obtain ⟨c0,c1,c2,c3,c4,c5,c6⟩:=HB6.out.thru hb7
    clear hb7 g0 g1 y0 hb6' hok6
    obtain ⟨xs,⟨hxl,hrow⟩,hL⟩:=hown7
    rcases hrow with ⟨h00,hl0⟩|⟨g,capg,cur,rfl,hBg,hcur,hcl1,hcl2,hcs,htk⟩
    ·omega
    have hcs':cur.size=capg*7:=hcs
    have htk':cur.toList.take (t.length*7)=xs:=htk
    have hxl':xs.length=t.length*7:=hxl
    have hfit:i*7+7≤cur.size:=by omega
    have Hcur:=Qh hcur
    have HL:=Qh hL
    have Htk:=Qh htk'
    have Hsz:=Qh (show (over cur (i*7) (entCs e (.slice aa e.attrs.length ca) (.slice ax e.exts.length cx))).size=capg*7 by rw [Xa8 _ _ _ hfit,hcs'])
    have Htm:=Qh (show (over cur (i*7) (entCs e (.slice aa e.attrs.length ca) (.slice ax e.exts.length cx))).toList.take (t.length*7)=xs.take (i*7)++entCs e (.slice aa e.attrs.length ca) (.slice ax e.exts.length cx)++xs.drop (i*7+7) by
     rw [Xe0 _ _ _ _ (show i*7+7≤t.length*7 by omega) (by omega),htk'];rfl)
    have hml:maxLen=9223372036854775807:=rfl
    rw [hml] at hcl2
    clear hcur hL htk htk' hcs hcs' hxl hxl' hml
    go_wp2_with (refine Xby rfl 35 _ _ rfl g (i*7) (entCs e (.slice aa e.attrs.length ca) (.slice ax e.exts.length cx)) (by simp [Act.eval]) rfl cur 35 Hcur.out hfit Hi7.out (tEnt.one Hrd.out) ?_)
    go_ret2
    have hset:=HL.out.set hi Hrd.out
    have hg:w7.grownBy (w7.setRow g (over cur (i*7) (entCs e (.slice aa e.attrs.length ca) (.slice ax e.exts.length cx)))) (some g):=Xas
    have hok8:=hok7.grown hg (fun g' hg'=>by cases hg';exact Hfr.out _ hBg)
    have hown8:OwnS tEnt 35 I (w7.setRow g (over cur (i*7) (entCs e (.slice aa e.attrs.length ca) (.slice ax e.exts.length cx)))) w5.heap.size (.slice (some ⟨g,0,none⟩) t.length capg) (t.set i e):=by
     refine ⟨_,⟨hset.1,.inr ⟨g,capg,_,by rw [List.length_set],hBg,setRow_heap _ _ _ _ _ _ Hcur.out,by rw [List.length_set];exact hcl1,by unfold maxLen;exact hcl2,Hsz.out,by rw [List.length_set];exact Htm.out⟩⟩,hset⟩
    obtain ⟨I',hI1,hI2,hI3,_⟩:=hown8.freeze hok8 Hfr.out
    rw [Ha2.out,Hput.out]
    exact ⟨_,I',rfl,hb7'.grown hg hb7'.size (fun k hk=>by cases hk;omega),hI1.mono (Nat.le_of_lt hsz5),hI2,hI3⟩
   ·have Ha2:=Qh (show applyT t e=([],8) by rw [Ha.out];rfl)
    go_enter Tryz.func129,Tryz.ntmps129
    go_wp2_with fail
    refine (Hck.out _ (hw.alloc _)).mono ?_
    rintro e1 w1 ⟨rfl,hb1⟩
    have HBx:=Qh (entB rfl hb1)
    have hok1:Ok I w1:=(hw.alloc _).below (Qn _) hb1
    have hsz1:w.heap.size<w1.heap.size:=by have:=hb1.size;simp at this;omega
    have hb1':Below w.heap.size w w1:=((Qb _ _).alloc (Qn _) _).trans (hb1.mono (by simp))
    clear hb1
    obtain ⟨c0,c1,c2,c3,c4,c5,c6⟩:=HBx.out
    go_wp2_with fail
    refine (Hfd.out _ hok1).mono ?_
    rintro e2 w2 ⟨rfl,hb2⟩
    have HBy:=Qh (HBx.out.thru hb2)
    have hok2:Ok I w2:=hok1.below (Qn _) hb2
    have hsz2:w.heap.size<w2.heap.size:=by have:=hb2.size;omega
    have hb2':=hb1'.trans (hb2.mono hb1'.size)
    clear hb2 hb1' hsz1 hok1 c0 c1 c2 c3 c4 c5 c6 HBx
    obtain ⟨c0,c1,c2,c3,c4,c5,c6⟩:=HBy.out
    go_wp2_with fail
    refine (Hit.out _).mono ?_
    rintro e3 w3 ⟨rfl,rfl⟩
    go_wp2_with fail
    refine (Hpar.out _ hok2).mono ?_
    rintro e4 w4 ⟨rfl,hb4⟩
    have hok4:Ok I w4:=hok2.below (Qn _) hb4
    have hb4':=hb2'.trans (hb4.mono hb2'.size)
    have HB4:=Qh (HBy.out.thru hb4)
    have hsz4:w.heap.size<w4.heap.size:=by have h2:=hb4.size;omega
    clear hb4 c0 c1 c2 c3 c4 c5 c6
    go_wp2_with fail
    refine (Hdir.out _ hok4).mono ?_
    rintro e5 w5 ⟨rfl,hb5⟩
    have hok5:Ok I w5:=hok4.below (Qn _) hb5
    have hb5':=hb4'.trans (hb5.mono hb4'.size)
    have HB5:=Qh (HB4.out.thru hb5)
    have hsz5:w.heap.size<w5.heap.size:=by have h2:=hb5.size;omega
    clear hb5 hb4'
    have Hcl:=Qh (Xbq I _ t Hv.out w5 hok5 (by omega))
    have hfr:∀b,w5.heap.size≤b→I b=none:=fun b hb=>hok5.fresh hb
    have Hfr:=Qh hfr
    clear hfr
    go_wp2_with fail
    refine Hcl.out.mono ?_
    rintro e6 w6 ⟨v6,rfl,hown6,hb6⟩
    have hok6:Ok I w6:=hok5.below (Qn _) hb6
    have hb6':=hb5'.trans (hb6.mono hb5'.size)
    have HB6:=Qh (HB5.out.thru hb6)
    have Hown6:=Qh hown6
    have Hsz6:=Qh hb6.size
    clear hown6 hb6 hb5'
    obtain ⟨y',va',vx',b,off,cap',hly,hvv,⟨y0,_,_,_,_,_,_⟩,_,_⟩:=Xe3 Hv.out hok6 i hi
    cases hvv
    have hyy:y'=y:=by rw [←hly,Hy.out]
    subst hyy
    have g0:=cell_regrown HB6.out.c0
    have g1:=cell_regrown y0
    clear hly
    go_wp2_with fail
    refine wp_region_quiet_below (by kernel_rfl) (by kernel_rfl) ?_
    repeat (go_big_quiet_step ((fail)))
    refine wpQuiet_nil ?_
    intro w7 hwq
    have hb7:Below (w6).heap.size (w6) w7:=by
     obtain ⟨pq,rfl⟩:=hwq
     exact below_regrown _ _ _
    clear hwq
    go_wp2
    go_ret2
    rw [Ha2.out]
    exact ⟨_,I,rfl,hb6'.trans (hb7.mono hb6'.size),Ext.refl _ _,hok6.below (Qn _) hb7,RdS.nil _ _⟩
   ·have Ha2:=Qh (show applyT t e=([],8) by rw [Ha.out];rfl)
    go_enter Tryz.func129,Tryz.ntmps129
    go_wp2_with fail
    refine (Hck.out _ (hw.alloc _)).mono ?_
    rintro e1 w1 ⟨rfl,hb1⟩
    have HBx:=Qh (entB rfl hb1)
    have hok1:Ok I w1:=(hw.alloc _).below (Qn _) hb1
    have hsz1:w.heap.size<w1.heap.size:=by have:=hb1.size;simp at this;omega
    have hb1':Below w.heap.size w w1:=((Qb _ _).alloc (Qn _) _).trans (hb1.mono (by simp))
    clear hb1
    obtain ⟨c0,c1,c2,c3,c4,c5,c6⟩:=HBx.out
    go_wp2_with fail
    refine (Hfd.out _ hok1).mono ?_
    rintro e2 w2 ⟨rfl,hb2⟩
    have HBy:=Qh (HBx.out.thru hb2)
    have hok2:Ok I w2:=hok1.below (Qn _) hb2
    have hsz2:w.heap.size<w2.heap.size:=by have:=hb2.size;omega
    have hb2':=hb1'.trans (hb2.mono hb1'.size)
    clear hb2 hb1' hsz1 hok1 c0 c1 c2 c3 c4 c5 c6 HBx
    obtain ⟨c0,c1,c2,c3,c4,c5,c6⟩:=HBy.out
    go_wp2_with fail
    refine (Hit.out _).mono ?_
    rintro e3 w3 ⟨rfl,rfl⟩
    go_wp2_with fail
    refine (Hpar.out _ hok2).mono ?_
    rintro e4 w4 ⟨rfl,hb4⟩
    have hok4:Ok I w4:=hok2.below (Qn _) hb4
    have hb4':=hb2'.trans (hb4.mono hb2'.size)
    have HB4:=Qh (HBy.out.thru hb4)
    have hsz4:w.heap.size<w4.heap.size:=by have h2:=hb4.size;omega
    clear hb4 c0 c1 c2 c3 c4 c5 c6
    go_wp2_with fail
    refine (Hdir.out _ hok4).mono ?_
    rintro e5 w5 ⟨rfl,hb5⟩
    have hok5:Ok I w5:=hok4.below (Qn _) hb5
    have hb5':=hb4'.trans (hb5.mono hb4'.size)
    have HB5:=Qh (HB4.out.thru hb5)
    have hsz5:w.heap.size<w5.heap.size:=by have h2:=hb5.size;omega
    clear hb5 hb4'
    have Hcl:=Qh (Xbq I _ t Hv.out w5 hok5 (by omega))
    have hfr:∀b,w5.heap.size≤b→I b=none:=fun b hb=>hok5.fresh hb
    have Hfr:=Qh hfr
    clear hfr
    go_wp2_with fail
    refine Hcl.out.mono ?_
    rintro e6 w6 ⟨v6,rfl,hown6,hb6⟩
    have hok6:Ok I w6:=hok5.below (Qn _) hb6
    have hb6':=hb5'.trans (hb6.mono hb5'.size)
    have HB6:=Qh (HB5.out.thru hb6)
    have Hown6:=Qh hown6
    have Hsz6:=Qh hb6.size
    clear hown6 hb6 hb5'
    obtain ⟨y',va',vx',b,off,cap',hly,hvv,⟨y0,_,_,_,_,_,_⟩,_,_⟩:=Xe3 Hv.out hok6 i hi
    cases hvv
    have hyy:y'=y:=by rw [←hly,Hy.out]
    subst hyy
    have g0:=cell_regrown HB6.out.c0
    have g1:=cell_regrown y0
    clear hly
    go_wp2_with fail
    refine wp_region_quiet_below (by kernel_rfl) (by kernel_rfl) ?_
    repeat (go_big_quiet_step ((fail)))
    refine wpQuiet_nil ?_
    intro w7 hwq
    have hb7:Below (w6).heap.size (w6) w7:=by
     obtain ⟨pq,rfl⟩:=hwq
     exact below_regrown _ _ _
    clear hwq
    go_wp2
    go_ret2
    rw [Ha2.out]
    exact ⟨_,I,rfl,hb6'.trans (hb7.mono hb6'.size),Ext.refl _ _,hok6.below (Qn _) hb7,RdS.nil _ _⟩
   ·have Ha2:=Qh (show applyT t e=(putT t e,0) by rw [Ha.out];rfl)
    have hi7:(Tryz.prog.info? 35).map (·.size)=some 7:=by kernel_rfl
    have Hi7:=Qh hi7
    clear hi7
    go_enter Tryz.func129,Tryz.ntmps129
    go_wp2_with fail
    refine (Hck.out _ (hw.alloc _)).mono ?_
    rintro e1 w1 ⟨rfl,hb1⟩
    have HBx:=Qh (entB rfl hb1)
    have hok1:Ok I w1:=(hw.alloc _).below (Qn _) hb1
    have hsz1:w.heap.size<w1.heap.size:=by have:=hb1.size;simp at this;omega
    have hb1':Below w.heap.size w w1:=((Qb _ _).alloc (Qn _) _).trans (hb1.mono (by simp))
    clear hb1
    obtain ⟨c0,c1,c2,c3,c4,c5,c6⟩:=HBx.out
    go_wp2_with fail
    refine (Hfd.out _ hok1).mono ?_
    rintro e2 w2 ⟨rfl,hb2⟩
    have HBy:=Qh (HBx.out.thru hb2)
    have hok2:Ok I w2:=hok1.below (Qn _) hb2
    have hsz2:w.heap.size<w2.heap.size:=by have:=hb2.size;omega
    have hb2':=hb1'.trans (hb2.mono hb1'.size)
    clear hb2 hb1' hsz1 hok1 c0 c1 c2 c3 c4 c5 c6 HBx
    obtain ⟨c0,c1,c2,c3,c4,c5,c6⟩:=HBy.out
    go_wp2_with fail
    refine (Hit.out _).mono ?_
    rintro e3 w3 ⟨rfl,rfl⟩
    go_wp2_with fail
    refine (Hpar.out _ hok2).mono ?_
    rintro e4 w4 ⟨rfl,hb4⟩
    have hok4:Ok I w4:=hok2.below (Qn _) hb4
    have hb4':=hb2'.trans (hb4.mono hb2'.size)
    have HB4:=Qh (HBy.out.thru hb4)
    have hsz4:w.heap.size<w4.heap.size:=by have h2:=hb4.size;omega
    clear hb4 c0 c1 c2 c3 c4 c5 c6
    go_wp2_with fail
    refine (Hdir.out _ hok4).mono ?_
    rintro e5 w5 ⟨rfl,hb5⟩
    have hok5:Ok I w5:=hok4.below (Qn _) hb5
    have hb5':=hb4'.trans (hb5.mono hb4'.size)
    have HB5:=Qh (HB4.out.thru hb5)
    have hsz5:w.heap.size<w5.heap.size:=by have h2:=hb5.size;omega
    clear hb5 hb4'
    have Hcl:=Qh (Xbq I _ t Hv.out w5 hok5 (by omega))
    have hfr:∀b,w5.heap.size≤b→I b=none:=fun b hb=>hok5.fresh hb
    have Hfr:=Qh hfr
    clear hfr
    go_wp2_with fail
    refine Hcl.out.mono ?_
    rintro e6 w6 ⟨v6,rfl,hown6,hb6⟩
    have hok6:Ok I w6:=hok5.below (Qn _) hb6
    have hb6':=hb5'.trans (hb6.mono hb5'.size)
    have HB6:=Qh (HB5.out.thru hb6)
    have Hown6:=Qh hown6
    have Hsz6:=Qh hb6.size
    clear hown6 hb6 hb5'
    obtain ⟨y',va',vx',b,off,cap',hly,hvv,⟨y0,_,_,_,_,_,_⟩,_,_⟩:=Xe3 Hv.out hok6 i hi
    cases hvv
    have hyy:y'=y:=by rw [←hly,Hy.out]
    subst hyy
    have g0:=cell_regrown HB6.out.c0
    have g1:=cell_regrown y0
    clear hly
    go_wp2_with fail
    refine wp_region_quiet_below (by kernel_rfl) (by kernel_rfl) ?_
    repeat (go_big_quiet_step ((fail)))
    refine wpQuiet_nil ?_
    intro w7 hwq
    have hb7:Below (w6).heap.size (w6) w7:=by
     obtain ⟨pq,rfl⟩:=hwq
     exact below_regrown _ _ _
    clear hwq
    have hok7:Ok I w7:=hok6.below (Qn _) hb7
    have hb7':=hb6'.trans (hb7.mono hb6'.size)
    have hown7:=Hown6.out.below hb7
    obtain ⟨c0,c1,c2,c3,c4,c5,c6⟩:=HB6.out.thru hb7
    clear hb7 g0 g1 y0 hb6' hok6
    obtain ⟨xs,⟨hxl,hrow⟩,hL⟩:=hown7
    rcases hrow with ⟨h00,hl0⟩|⟨g,capg,cur,rfl,hBg,hcur,hcl1,hcl2,hcs,htk⟩
    ·omega
    have hcs':cur.size=capg*7:=hcs
    have htk':cur.toList.take (t.length*7)=xs:=htk
    have hxl':xs.length=t.length*7:=hxl
    have hfit:i*7+7≤cur.size:=by omega
    have Hcur:=Qh hcur
    have HL:=Qh hL
    have Htk:=Qh htk'
    have Hsz:=Qh (show (over cur (i*7) (entCs e (.slice aa e.attrs.length ca) (.slice ax e.exts.length cx))).size=capg*7 by rw [Xa8 _ _ _ hfit,hcs'])
    have Htm:=Qh (show (over cur (i*7) (entCs e (.slice aa e.attrs.length ca) (.slice ax e.exts.length cx))).toList.take (t.length*7)=xs.take (i*7)++entCs e (.slice aa e.attrs.length ca) (.slice ax e.exts.length cx)++xs.drop (i*7+7) by
     rw [Xe0 _ _ _ _ (show i*7+7≤t.length*7 by omega) (by omega),htk'];rfl)
    have hml:maxLen=9223372036854775807:=rfl
    rw [hml] at hcl2
    clear hcur hL htk htk' hcs hcs' hxl hxl' hml
    go_wp2_with (refine Xby rfl 35 _ _ rfl g (i*7) (entCs e (.slice aa e.attrs.length ca) (.slice ax e.exts.length cx)) (by simp [Act.eval]) rfl cur 35 Hcur.out hfit Hi7.out (tEnt.one Hrd.out) ?_)
    go_ret2
    have hset:=HL.out.set hi Hrd.out
    have hg:w7.grownBy (w7.setRow g (over cur (i*7) (entCs e (.slice aa e.attrs.length ca) (.slice ax e.exts.length cx)))) (some g):=Xas
    have hok8:=hok7.grown hg (fun g' hg'=>by cases hg';exact Hfr.out _ hBg)
    have hown8:OwnS tEnt 35 I (w7.setRow g (over cur (i*7) (entCs e (.slice aa e.attrs.length ca) (.slice ax e.exts.length cx)))) w5.heap.size (.slice (some ⟨g,0,none⟩) t.length capg) (t.set i e):=by
     refine ⟨_,⟨hset.1,.inr ⟨g,capg,_,by rw [List.length_set],hBg,setRow_heap _ _ _ _ _ _ Hcur.out,by rw [List.length_set];exact hcl1,by unfold maxLen;exact hcl2,Hsz.out,by rw [List.length_set];exact Htm.out⟩⟩,hset⟩
    obtain ⟨I',hI1,hI2,hI3,_⟩:=hown8.freeze hok8 Hfr.out
    rw [Ha2.out,Hput.out]
    exact ⟨_,I',rfl,hb7'.grown hg hb7'.size (fun k hk=>by cases hk;omega),hI1.mono (Nat.le_of_lt hsz5),hI2,hI3⟩
  ·subst hix
   have hgn:=Xqx e2
   have hnp:∀x∈t,x.path≠e.path:=fun x hx hp=>by
    rw [List.any_eq_true.2 ⟨x,hx,by simpa [isAt] using hp⟩] at e2
    exact absurd e2 (by simp)
   have Ha:=Qh (Xmx H0.out Hk3.out Hde.out hgn)
   have Hput:=Qh (Xuw Hsr.out e hnp)
   have hble:=(Xrt (notLess t e.path) 0 t.length (Nat.zero_le _)).2
   clear e2 hgn hnp
   by_cases h5:5000≤t.length
   ·have hd5:decide (5000≤t.length)=true:=Qt h5
    have Ha2:=Qh (show applyT t e=([],6) by rw [Ha.out,if_pos h5])
    go_enter Tryz.func129,Tryz.ntmps129
    go_wp2_with fail
    refine (Hck.out _ (hw.alloc _)).mono ?_
    rintro e1 w1 ⟨rfl,hb1⟩
    have HBx:=Qh (entB rfl hb1)
    have hok1:Ok I w1:=(hw.alloc _).below (Qn _) hb1
    have hsz1:w.heap.size<w1.heap.size:=by have:=hb1.size;simp at this;omega
    have hb1':Below w.heap.size w w1:=((Qb _ _).alloc (Qn _) _).trans (hb1.mono (by simp))
    clear hb1
    obtain ⟨c0,c1,c2,c3,c4,c5,c6⟩:=HBx.out
    go_wp2_with fail
    refine (Hfd.out _ hok1).mono ?_
    rintro e2 w2 ⟨rfl,hb2⟩
    have HBy:=Qh (HBx.out.thru hb2)
    have hok2:Ok I w2:=hok1.below (Qn _) hb2
    have hsz2:w.heap.size<w2.heap.size:=by have:=hb2.size;omega
    have hb2':=hb1'.trans (hb2.mono hb1'.size)
    clear hb2 hb1' hsz1 hok1 c0 c1 c2 c3 c4 c5 c6 HBx
    obtain ⟨c0,c1,c2,c3,c4,c5,c6⟩:=HBy.out
    go_wp2_with fail
    refine (Hit.out _).mono ?_
    rintro e3 w3 ⟨rfl,rfl⟩
    go_wp2_with fail
    refine (Hpar.out _ hok2).mono ?_
    rintro e4 w4 ⟨rfl,hb4⟩
    have hok4:Ok I w4:=hok2.below (Qn _) hb4
    have hb4':=hb2'.trans (hb4.mono hb2'.size)
    have HB4:=Qh (HBy.out.thru hb4)
    have hsz4:w.heap.size<w4.heap.size:=by have h2:=hb4.size;omega
    clear hb4 c0 c1 c2 c3 c4 c5 c6
    go_wp2_with fail
    refine (Hdir.out _ hok4).mono ?_
    rintro e5 w5 ⟨rfl,hb5⟩
    have hok5:Ok I w5:=hok4.below (Qn _) hb5
    have hb5':=hb4'.trans (hb5.mono hb4'.size)
    have HB5:=Qh (HB4.out.thru hb5)
    have hsz5:w.heap.size<w5.heap.size:=by have h2:=hb5.size;omega
    clear hb5 hb4'
    have Hcl:=Qh (Xbq I _ t Hv.out w5 hok5 (by omega))
    have hfr:∀b,w5.heap.size≤b→I b=none:=fun b hb=>hok5.fresh hb
    have Hfr:=Qh hfr
    clear hfr
    go_wp2_with fail
    refine Hcl.out.mono ?_
    rintro e6 w6 ⟨v6,rfl,hown6,hb6⟩
    have hok6:Ok I w6:=hok5.below (Qn _) hb6
    have hb6':=hb5'.trans (hb6.mono hb5'.size)
    have HB6:=Qh (HB5.out.thru hb6)
    have Hown6:=Qh hown6
    have Hsz6:=Qh hb6.size
    clear hown6 hb6 hb5'
    go_wp2
    go_ret2
    rw [Ha2.out]
    exact ⟨_,I,rfl,hb6',Ext.refl _ _,hok6,RdS.nil _ _⟩
   have hd5:decide (5000≤t.length)=false:=Qf h5
   have Ha2:=Qh (show applyT t e=(putT t e,0) by rw [Ha.out,if_neg h5])
   go_enter Tryz.func129,Tryz.ntmps129
   go_wp2_with fail
   refine (Hck.out _ (hw.alloc _)).mono ?_
   rintro e1 w1 ⟨rfl,hb1⟩
   have HBx:=Qh (entB rfl hb1)
   have hok1:Ok I w1:=(hw.alloc _).below (Qn _) hb1
   have hsz1:w.heap.size<w1.heap.size:=by have:=hb1.size;simp at this;omega
   have hb1':Below w.heap.size w w1:=((Qb _ _).alloc (Qn _) _).trans (hb1.mono (by simp))
   clear hb1
   obtain ⟨c0,c1,c2,c3,c4,c5,c6⟩:=HBx.out
   go_wp2_with fail
   refine (Hfd.out _ hok1).mono ?_
   rintro e2 w2 ⟨rfl,hb2⟩
   have HBy:=Qh (HBx.out.thru hb2)
   have hok2:Ok I w2:=hok1.below (Qn _) hb2
   have hsz2:w.heap.size<w2.heap.size:=by have:=hb2.size;omega
   have hb2':=hb1'.trans (hb2.mono hb1'.size)
   clear hb2 hb1' hsz1 hok1 c0 c1 c2 c3 c4 c5 c6 HBx
   obtain ⟨c0,c1,c2,c3,c4,c5,c6⟩:=HBy.out
   go_wp2_with fail
   refine (Hit.out _).mono ?_
   rintro e3 w3 ⟨rfl,rfl⟩
   go_wp2_with fail
   refine (Hpar.out _ hok2).mono ?_
   rintro e4 w4 ⟨rfl,hb4⟩
   have hok4:Ok I w4:=hok2.below (Qn _) hb4
   have hb4':=hb2'.trans (hb4.mono hb2'.size)
   have HB4:=Qh (HBy.out.thru hb4)
   have hsz4:w.heap.size<w4.heap.size:=by have h2:=hb4.size;omega
   clear hb4 c0 c1 c2 c3 c4 c5 c6
   go_wp2_with fail
   refine (Hdir.out _ hok4).mono ?_
   rintro e5 w5 ⟨rfl,hb5⟩
   have hok5:Ok I w5:=hok4.below (Qn _) hb5
   have hb5':=hb4'.trans (hb5.mono hb4'.size)
   have HB5:=Qh (HB4.out.thru hb5)
   have hsz5:w.heap.size<w5.heap.size:=by have h2:=hb5.size;omega
   clear hb5 hb4'
   have Hcl:=Qh (Xbq I _ t Hv.out w5 hok5 (by omega))
   have hfr:∀b,w5.heap.size≤b→I b=none:=fun b hb=>hok5.fresh hb
   have Hfr:=Qh hfr
   clear hfr
   go_wp2_with fail
   refine Hcl.out.mono ?_
   rintro e6 w6 ⟨v6,rfl,hown6,hb6⟩
   have hok6:Ok I w6:=hok5.below (Qn _) hb6
   have hb6':=hb5'.trans (hb6.mono hb5'.size)
   have HB6:=Qh (HB5.out.thru hb6)
   have Hown6:=Qh hown6
   have Hsz6:=Qh hb6.size
   clear hown6 hb6 hb5'
   obtain ⟨I',hx',hok',hrd',_⟩:=Hown6.out.freeze hok6 Hfr.out
   have Hbs:=Qh (Xdp I' (hI.mono (hx'.keep hok5 (Qn _))) v6 t hrd' (by omega) Hs.out e.path hpl w6 hok')
   generalize bs (notLess t e.path) 0 t.length=i at Hbs Hput hble
   obtain ⟨a6,c6',rfl,_,_,_⟩:=id hrd'
   obtain ⟨c0,c1,c2,c3,c4,c5,c6⟩:=HB6.out
   clear hx' hok' hrd'
   go_wp2_with fail
   refine Hbs.out.mono ?_
   rintro e7 w7 ⟨fb,rfl,hb7⟩
   clear c0 c1 c2 c3 c4 c5 c6
   have hok7:Ok I w7:=hok6.below (Qn _) hb7
   have hb7':=hb6'.trans (hb7.mono hb6'.size)
   have Hsz7:=Qh (Nat.le_trans Hsz6.out hb7.size)
   obtain ⟨c0,c1,c2,c3,c4,c5,c6⟩:=HB6.out.thru hb7
   have Hown7:=Qh (Hown6.out.below hb7)
   have hne:=Hown7.out.ne_ge (Qn w7.heap.size)
   have Hins:=Qh (Xot I w5.heap.size _ t e w7.heap.size i 35 (entCs e (.slice aa e.attrs.length ca) (.slice ax e.exts.length cx)) _ (Hown7.out.alloc (.cells #[.int .i64 e.kind,S e.path,.slice aa e.attrs.length ca,S e.target,.int .i64 e.size,S e.digest,.slice ax e.exts.length cx] 35)) Hrd.out (heap_alloc_new w7 (.cells #[.int .i64 e.kind,S e.path,.slice aa e.attrs.length ca,S e.target,.int .i64 e.size,S e.digest,.slice ax e.exts.length cx] 35)) hne hble (by omega) (by have:=Hsz7.out;simp;omega))
   clear hb7 hne
   go_wp2_with fail
   refine Hins.out.mono ?_
   rintro e8 w8 ⟨v8,rfl,hown8,hg8⟩
   have Hown8:=Qh hown8
   have Hg8:=Qh hg8
   clear hown8 hg8
   go_wp2
   go_ret2
   rw [Ha2.out,Hput.out]
   have hokA:Ok I (w7.alloc (.cells #[.int .i64 e.kind,S e.path,.slice aa e.attrs.length ca,S e.target,.int .i64 e.size,S e.digest,.slice ax e.exts.length cx] 35)):=hok7.alloc _
   have hown7:=Hown7.out.alloc (.cells #[.int .i64 e.kind,S e.path,.slice aa e.attrs.length ca,S e.target,.int .i64 e.size,S e.digest,.slice ax e.exts.length cx] 35)
   have hb8:=Below.own (hb7'.alloc hb7'.size _) Hg8.out hown7 (Nat.le_of_lt hsz5) (by have:=Hsz7.out;simp;omega)
   have hok8:Ok I w8:=Ok.own hokA Hg8.out hown7 Hfr.out
   obtain ⟨I'',hI1,hI2,hI3,_⟩:=Hown8.out.freeze hok8 Hfr.out
   exact ⟨_,I'',rfl,hb8,hI1.mono (Nat.le_of_lt hsz5),hI2,hI3⟩
end Go.Proofs.YtkipnpjagcfcpaaGreatDoor
