/-
  Walks and laws that the claim's theorem uses: texts PaD EnA DgP BmA, joined; comments out. Conditions: as each theorem says.
-/
import Derived.Test.YtdeknddamidldaaGreatDoorQ00
import Derived.Lib.ItoaNum
import Derived.BigRegion
import Derived.Test.YtdeknddamidldaaGreatDoorProg
import Derived.OpenShut
import Derived.DataShut
namespace Go.Proofs.YtdeknddamidldaaGreatDoor
open Go.RowKit
theorem Xhk (l d:List Bytes):d.isPrefixOf l=decide (l.take d.length=d):=by
 rw [Bool.eq_iff_iff,List.isPrefixOf_iff_prefix,decide_eq_true_iff,List.prefix_iff_eq_take]
 exact ⟨fun h=>h.symm,fun h=>h.symm⟩
theorem Xf5 {l d:List Bytes} (h:l.length<d.length):d.isPrefixOf l=false:=by
 cases hp:d.isPrefixOf l with
 |false=>rfl
 |true=>have:=(List.isPrefixOf_iff_prefix.1 hp).length_le;omega
set_option maxRecDepth 100000 in
set_option maxHeartbeats 1000000 in
theorem Xch (I:IH) (p d:Bytes) (w:World) (hw:Ok I w):
 Calls Tryz.prog 43 #[S p,S d] w fun e w'=>e= .returned (.bool (under p d))∧Below w.heap.size w w':=by
 have Hcp:=Qh (fun w hw=>Xc4 I p w hw)
 have Hcd:=Qh (fun w hw=>Xc4 I d w hw)
 by_cases h0:pathErr p=0
 case neg=>
  have Hu:=Qh (show under p d=false by rw [under,Qf h0];rfl)
  obtain ⟨q,hq⟩:∃q,pathErr p=q:=⟨_,rfl⟩
  have hn:(q != 0)=true:=by rw [←hq];simpa using h0
  rw [hq] at Hcp
  clear hq h0
  go_enter Tryz.func43,Tryz.ntmps43
  go_wp2_with fail
  refine (Hcp.out _ hw).mono ?_
  rintro e w1 ⟨rfl,hb1⟩
  go_wp2
  go_ret
  exact ⟨Xah Hu.out.symm,hb1⟩
 by_cases h1:pathErr d=0
 case neg=>
  have Hu:=Qh (show under p d=false by rw [under,Qf h1,Bool.and_false];rfl)
  obtain ⟨q,hq⟩:∃q,pathErr d=q:=⟨_,rfl⟩
  have hn:(q != 0)=true:=by rw [←hq];simpa using h1
  rw [hq] at Hcd
  rw [h0] at Hcp
  clear hq h1 h0
  go_enter Tryz.func43,Tryz.ntmps43
  go_wp2_with fail
  refine (Hcp.out _ hw).mono ?_
  rintro e w1 ⟨rfl,hb1⟩
  go_wp2_with fail
  refine (Hcd.out _ (hw.below (Qn _) hb1)).mono ?_
  rintro e w2 ⟨rfl,hb2⟩
  go_wp2
  go_ret
  exact ⟨Xah Hu.out.symm,hb1.trans (hb2.mono hb1.size)⟩
 have hp:=(Xa6 h0).1
 have hd:=(Xa6 h1).1
 have Hu:=Qh (show under p d=(els d).isPrefixOf (els p) by rw [under,Qt h0,Qt h1];rfl)
 have Hep:=Qh (fun I w hw=>Xbc I p (by omega) w hw)
 have Hed:=Qh (fun I w hw=>Xbc I d (by omega) w hw)
 rw [h0] at Hcp
 rw [h1] at Hcd
 generalize els p=l at Hu Hep
 generalize els d=m at Hu Hed
 clear h0 h1
 go_enter Tryz.func43,Tryz.ntmps43
 go_wp2_with fail
 refine (Hcp.out _ hw).mono ?_
 rintro e w1 ⟨rfl,hb1⟩
 have hok1:Ok I w1:=hw.below (Qn _) hb1
 go_wp2_with fail
 refine (Hcd.out _ hok1).mono ?_
 rintro e w2 ⟨rfl,hb2⟩
 have hok2:Ok I w2:=hok1.below (Qn _) hb2
 have hb2':=hb1.trans (hb2.mono hb1.size)
 clear hb1 hb2
 go_wp2_with fail
 refine (Hep.out I _ hok2).mono ?_
 rintro e w3 ⟨v3,I3,rfl,hb3,hx3,hok3,hr3⟩
 have hb3':=hb2'.trans (hb3.mono hb2'.size)
 have Hr3:=Qh hr3
 clear hr3 hb3
 go_wp2_with fail
 refine (Hed.out I3 _ hok3).mono ?_
 rintro e w4 ⟨v4,I4,rfl,hb4,hx4,hok4,hr4⟩
 have hb4':=hb3'.trans (hb4.mono hb3'.size)
 have hr3:=Hr3.out.mono (hx4.keep hok3 (Qn _))
 have hlen:=hr3.len_le
 have hlen2:=hr4.len_le
 obtain ⟨ao,cap,rfl,hcap,hcm,_⟩:=id hr3
 obtain ⟨ao2,cap2,rfl,hcap2,hcm2,_⟩:=id hr4
 have Hl:=Qh hr3
 have Hm:=Qh hr4
 clear hr3 hr4 Hr3 hb4 hx4 hx3 hok3 hb2' hb3'
 by_cases hlm:m.length≤l.length
 case neg=>
  have hn:decide (l.length<m.length)=true:=Qt (by omega)
  have Hu2:=Qh (show under p d=false by rw [Hu.out];exact Xf5 (by omega))
  go_wp2
  go_ret
  exact ⟨Xah Hu2.out.symm,hb4'⟩
 have hn:decide (l.length<m.length)=false:=Qf (by omega)
 have Hu2:=Qh (show under p d=decide (l.take m.length=m) by rw [Hu.out];exact Xhk l m)
 have HB:=Qh hb4'
 clear hb4'
 go_wp2_with fail
 go_loopw [7] (fun s7 wr=> ∃k:Nat,k≤m.length∧s7= .int .i64 k∧l.take k=m.take k∧Below w4.heap.size w4 wr) (fun i _=>m.length-(intOf i).toNat)
 case atStart=>exact ⟨0,Nat.zero_le _,rfl,rfl,Qb _ _⟩
 case round=>
  obtain ⟨k,hk,rfl,hr,hb⟩:=hrel
  have Hr:=Qh hr;clear hr
  have hwr:Ok I4 wr:=hok4.below (Qn _) hb
  by_cases hlt:k<m.length
  ·obtain ⟨x,b,off,cap',hlx,hvv,hx0⟩:=Xg7 Hl.out hwr k (by omega)
   cases hvv
   obtain ⟨y,b',off',cap'',hly,hvv,hy0⟩:=Xg7 Hm.out hwr k hlt
   cases hvv
   have Hlx:=Qh hlx
   have Hly:=Qh hly
   have hlt2:k<l.length:=by omega
   have g0:=cell_regrown hx0
   have g1:=cell_regrown hy0
   clear hlx hly
   by_cases hxy:x=y
   ·have f1:(x != y)=false:=by simp [hxy]
    have f2:(x==y)=true:=by simp [hxy]
    have Hn:=Qh (show l.take (k+1)=m.take (k+1) by rw [List.take_succ_eq_append_getElem hlt2,List.take_succ_eq_append_getElem hlt,Hr.out,Hlx.out,Hly.out,hxy])
    clear hxy
    go_wp2_with fail
    refine wp_region_quiet_below (by kernel_rfl) (by kernel_rfl) ?_
    repeat (go_big_quiet_step ((fail)))
    refine wpQuiet_nil ?_
    intro w5 hwq
    have hb5:Below (wr).heap.size (wr) w5:=by
     obtain ⟨pq,rfl⟩:=hwq
     exact below_regrown _ _ _
    clear hwq
    go_wp2
    go_roundw
    case rel=>exact ⟨k+1,by omega,by go_num,Hn.out,hb.trans (hb5.mono hb.size)⟩
    case measure=>simp [intOf];omega
   ·have f1:(x != y)=true:=by simpa using hxy
    have f2:(x==y)=false:=by simpa using hxy
    have Hn:=Qh (show under p d=false by
     rw [Hu2.out,Qf]
     intro h
     apply hxy
     rw [←Hlx.out,←Hly.out]
     have:=congrArg (fun z=>z[k]?) h
     simp only [List.getElem?_take_of_lt hlt] at this
     rw [List.getElem?_eq_getElem hlt2,List.getElem?_eq_getElem hlt] at this
     exact Option.some.inj this)
    clear hxy
    go_wp2_with fail
    refine wp_region_quiet_below (by kernel_rfl) (by kernel_rfl) ?_
    repeat (go_big_quiet_step ((fail)))
    refine wpQuiet_nil ?_
    intro w5 hwq
    have hb5:Below (wr).heap.size (wr) w5:=by
     obtain ⟨pq,rfl⟩:=hwq
     exact below_regrown _ _ _
    clear hwq
    go_wp2
    go_ret
    exact ⟨Xah Hn.out.symm,HB.out.trans ((hb.trans (hb5.mono hb.size)).mono HB.out.size)⟩
  ·have Hn:=Qh (show under p d=true by
    have:=Hr.out
    rw [show k=m.length by omega,List.take_of_length_le (l:=m) (Qn _)] at this
    rw [Hu2.out,Qt this])
   go_wp2
   go_ret
   exact ⟨Xah Hn.out.symm,HB.out.trans (hb.mono HB.out.size)⟩
set_option maxRecDepth 100000 in
set_option maxHeartbeats 1000000 in
theorem Xb4 (I:IH) (p d:Bytes) (hp:p.length≤4294967280) (hd:d.length≤4294967280) (w:World) (hw:Ok I w):
 Calls Tryz.prog 120 #[S p,S d] w fun e w'=>e= .returned (.int .i64 (cmpP p d))∧Below w.heap.size w w':=by
 have Hu:=Qh (Xsd p d)
 have Hep:=Qh (fun I w hw=>Xbc I p hp w hw)
 have Hed:=Qh (fun I w hw=>Xbc I d hd w hw)
 generalize els p=l at Hu Hep
 generalize els d=m at Hu Hed
 go_enter Tryz.func120,Tryz.ntmps120
 go_wp2_with fail
 refine (Hep.out I _ hw).mono ?_
 rintro e w3 ⟨v3,I3,rfl,hb3,hx3,hok3,hr3⟩
 have Hr3:=Qh hr3
 clear hr3
 go_wp2_with fail
 refine (Hed.out I3 _ hok3).mono ?_
 rintro e w4 ⟨v4,I4,rfl,hb4,hx4,hok4,hr4⟩
 have HB:=Qh (hb3.trans (hb4.mono hb3.size))
 have hr3:=Hr3.out.mono (hx4.keep hok3 (Qn _))
 have hlen:=hr3.len_le
 have hlen2:=hr4.len_le
 obtain ⟨ao,cap,rfl,hcap,hcm,_⟩:=id hr3
 obtain ⟨ao2,cap2,rfl,hcap2,hcm2,_⟩:=id hr4
 have Hl:=Qh hr3
 have Hm:=Qh hr4
 clear hr3 hr4 Hr3 hb4 hx4 hx3 hok3 hb3
 go_wp2_with fail
 go_loopw [7] (fun s7 wr=> ∃k:Nat,k≤l.length∧k≤m.length∧s7= .int .i64 k∧l.take k=m.take k∧Below w4.heap.size w4 wr) (fun i _=>m.length-(intOf i).toNat)
 case atStart=>exact ⟨0,Nat.zero_le _,Nat.zero_le _,rfl,rfl,Qb _ _⟩
 case round=>
  obtain ⟨k,hk,hk2,rfl,hr,hb⟩:=hrel
  have Hr:=Qh hr
  have Hcd:=Qh (Xmg hr hk hk2)
  clear hr
  have hwr:Ok I4 wr:=hok4.below (Qn _) hb
  by_cases hlt:k<l.length
  case neg=>
   have Hdl:=Qh (show l.drop k= [] from List.drop_of_length_le (by omega))
   by_cases hlt2:k<m.length
   ·have hd1:decide (l.length<m.length)=true:=Qt (by omega)
    have Hn:=Qh (show cmpP p d= -1 by rw [Hu.out,Hcd.out,Hdl.out,List.drop_eq_getElem_cons hlt2];rfl)
    go_wp2
    go_ret
    exact ⟨Xac Hn.out.symm,HB.out.trans (hb.mono HB.out.size)⟩
   ·have hd1:decide (l.length<m.length)=false:=Qf (by omega)
    have hd2:decide (m.length<l.length)=false:=Qf (by omega)
    have Hn:=Qh (show cmpP p d=0 by rw [Hu.out,Hcd.out,Hdl.out,List.drop_of_length_le (by omega)];rfl)
    go_wp2
    go_ret
    exact ⟨Xac Hn.out.symm,HB.out.trans (hb.mono HB.out.size)⟩
  by_cases hlt2:k<m.length
  case neg=>
   have hd1:decide (l.length<m.length)=false:=Qf (by omega)
   have hd2:decide (m.length<l.length)=true:=Qt (by omega)
   have Hn:=Qh (show cmpP p d=1 by rw [Hu.out,Hcd.out,List.drop_of_length_le (l:=m) (by omega),List.drop_eq_getElem_cons hlt];rfl)
   go_wp2
   go_ret
   exact ⟨Xac Hn.out.symm,HB.out.trans (hb.mono HB.out.size)⟩
  obtain ⟨x,b,off,cap',hlx,hvv,hx0⟩:=Xg7 Hl.out hwr k hlt
  cases hvv
  obtain ⟨y,b',off',cap'',hly,hvv,hy0⟩:=Xg7 Hm.out hwr k hlt2
  cases hvv
  have Hcd2:=Qh (show cmpP p d=cmpL (x::l.drop (k+1)) (y::m.drop (k+1)) by rw [Hu.out,Hcd.out,List.drop_eq_getElem_cons hlt,List.drop_eq_getElem_cons hlt2,hlx,hly])
  have Hlx:=Qh hlx
  have Hly:=Qh hly
  have g0:=cell_regrown hx0
  have g1:=cell_regrown hy0
  clear hlx hly
  rcases Xd7 x y with ht|ht|ht
  ·have Hn:=Qh (show cmpP p d= -1 by rw [Hcd2.out];exact Xgb ht _ _)
   go_wp2_with fail
   refine wp_region_quiet_below (by kernel_rfl) (by kernel_rfl) ?_
   repeat (go_big_quiet_step ((fail)))
   refine wpQuiet_nil ?_
   intro w5 hwq
   have hb5:Below (wr).heap.size (wr) w5:=by
    obtain ⟨pq,rfl⟩:=hwq
    exact below_regrown _ _ _
   clear hwq
   go_wp2
   go_ret
   exact ⟨Xac Hn.out.symm,HB.out.trans ((hb.trans (hb5.mono hb.size)).mono HB.out.size)⟩
  ·have f1:Op.bytesLess x y=false:=by rw [ht];exact Xbf _
   have f2:Op.bytesLess y x=false:=by rw [ht];exact Xbf _
   have f3:(x==y)=true:=by simp [ht]
   have f4:(!(x==y))=false:=by simp [ht]
   have Hn:=Qh (show l.take (k+1)=m.take (k+1) by rw [List.take_succ_eq_append_getElem hlt,List.take_succ_eq_append_getElem hlt2,Hr.out,Hlx.out,Hly.out,ht])
   clear ht
   go_wp2_with fail
   refine wp_region_quiet_below (by kernel_rfl) (by kernel_rfl) ?_
   repeat (go_big_quiet_step ((fail)))
   refine wpQuiet_nil ?_
   intro w5 hwq
   have hb5:Below (wr).heap.size (wr) w5:=by
    obtain ⟨pq,rfl⟩:=hwq
    exact below_regrown _ _ _
   clear hwq
   have hb5':=hb.trans (hb5.mono hb.size)
   have hx1:=Xaa hb5 hx0
   have hy1:=Xaa hb5 hy0
   have g0:=cell_regrown hx1
   have g1:=cell_regrown hy1
   clear hb5 hx0 hy0
   go_wp2_with fail
   refine wp_region_quiet_below (by kernel_rfl) (by kernel_rfl) ?_
   repeat (go_big_quiet_step ((fail)))
   refine wpQuiet_nil ?_
   intro w6 hwq
   have hb6:Below (w5).heap.size (w5) w6:=by
    obtain ⟨pq,rfl⟩:=hwq
    exact below_regrown _ _ _
   clear hwq
   go_wp2
   go_roundw
   case rel=>exact ⟨k+1,by omega,by omega,by go_num,Hn.out,hb5'.trans (hb6.mono hb5'.size)⟩
   case measure=>simp [intOf];omega
  ·have f1:=Xd8 ht
   have f3:(x==y)=false:=by simpa using (Xp3 ht).symm
   have f4:(!(x==y))=true:=by rw [f3];rfl
   have Hn:=Qh (show cmpP p d=1 by rw [Hcd2.out];exact Xgc ht _ _)
   go_wp2_with fail
   refine wp_region_quiet_below (by kernel_rfl) (by kernel_rfl) ?_
   repeat (go_big_quiet_step ((fail)))
   refine wpQuiet_nil ?_
   intro w5 hwq
   have hb5:Below (wr).heap.size (wr) w5:=by
    obtain ⟨pq,rfl⟩:=hwq
    exact below_regrown _ _ _
   clear hwq
   have hb5':=hb.trans (hb5.mono hb.size)
   have hx1:=Xaa hb5 hx0
   have hy1:=Xaa hb5 hy0
   have g0:=cell_regrown hx1
   have g1:=cell_regrown hy1
   clear hb5 hx0 hy0
   go_wp2_with fail
   refine wp_region_quiet_below (by kernel_rfl) (by kernel_rfl) ?_
   repeat (go_big_quiet_step ((fail)))
   refine wpQuiet_nil ?_
   intro w6 hwq
   have hb6:Below (w5).heap.size (w5) w6:=by
    obtain ⟨pq,rfl⟩:=hwq
    exact below_regrown _ _ _
   clear hwq
   go_wp2
   go_ret
   exact ⟨Xac Hn.out.symm,HB.out.trans ((hb5'.trans (hb6.mono hb5'.size)).mono HB.out.size)⟩
def nameP (k:Int):Bytes:=if k=1 then [102,105,108,101] else if k=2 then [100,105,114] else if k=3 then [108,105,110,107] else if k=4 then [114,101,109,111,118,101] else if k=5 then [104,111,108,100] else if k=6 then [114,101,108,101,97,115,101] else []
theorem nameP_nil {k:Int}:nameP k= []↔k<1∨6<k:=by
 unfold nameP
 constructor
 ·intro h
  by_cases h1:k<1∨6<k
  ·exact h1
  ·have:k=1∨k=2∨k=3∨k=4∨k=5∨k=6:=by omega
   rcases this with rfl|rfl|rfl|rfl|rfl|rfl<;>simp at h
 ·intro h
  rw [if_neg (by omega),if_neg (by omega),if_neg (by omega),if_neg (by omega),if_neg (by omega),if_neg (by omega)]
set_option maxRecDepth 100000 in
set_option maxHeartbeats 400000 in
theorem Xis (k:Int) (w:World):Calls Tryz.prog 159 #[.int .i64 k] w fun e w'=>e= .returned (S (nameP k))∧w'=w:=by
 by_cases h1:k=1
 case pos=>
  subst h1
  rw [show nameP 1= [102,105,108,101] from rfl]
  go_enter Tryz.func159,Tryz.ntmps159
  go_wp2
  go_ret
  exact ⟨rfl,rfl⟩
 by_cases h2:k=2
 case pos=>
  subst h2
  rw [show nameP 2= [100,105,114] from rfl]
  go_enter Tryz.func159,Tryz.ntmps159
  go_wp2
  go_ret
  exact ⟨rfl,rfl⟩
 by_cases h3:k=3
 case pos=>
  subst h3
  rw [show nameP 3= [108,105,110,107] from rfl]
  go_enter Tryz.func159,Tryz.ntmps159
  go_wp2
  go_ret
  exact ⟨rfl,rfl⟩
 by_cases h4:k=4
 case pos=>
  subst h4
  rw [show nameP 4= [114,101,109,111,118,101] from rfl]
  go_enter Tryz.func159,Tryz.ntmps159
  go_wp2
  go_ret
  exact ⟨rfl,rfl⟩
 by_cases h5:k=5
 case pos=>
  subst h5
  rw [show nameP 5= [104,111,108,100] from rfl]
  go_enter Tryz.func159,Tryz.ntmps159
  go_wp2
  go_ret
  exact ⟨rfl,rfl⟩
 by_cases h6:k=6
 case pos=>
  subst h6
  rw [show nameP 6= [114,101,108,101,97,115,101] from rfl]
  go_enter Tryz.func159,Tryz.ntmps159
  go_wp2
  go_ret
  exact ⟨rfl,rfl⟩
 have hn:nameP k= []:=nameP_nil.2 (by omega)
 have f1:(k==1)=false:=by simpa using h1
 have f2:(k==2)=false:=by simpa using h2
 have f3:(k==3)=false:=by simpa using h3
 have f4:(k==4)=false:=by simpa using h4
 have f5:(k==5)=false:=by simpa using h5
 have f6:(k==6)=false:=by simpa using h6
 rw [hn]
 clear hn h1 h2 h3 h4 h5 h6
 go_enter Tryz.func159,Tryz.ntmps159
 go_wp2
 go_ret
 exact ⟨rfl,rfl⟩
def digC (c:UInt8):Bool:=decide (48≤c)&&decide (c≤57)
theorem Xgp (c:UInt8):digC c=(decide (48≤c.toNat)&&decide (c.toNat≤57)):=by
 unfold digC
 simp [UInt8.le_iff_toNat_le]
theorem Xes (l:Bytes) (c:UInt8):digits (l++ [c])=10*digits l+((c.toNat:Int)-48):=by
 simp [digits,List.foldl_append]
theorem Xl7:∀(n:Nat) (l:Bytes),l.length=n→l.all digC=true→0≤digits l∧digits l<10 ^ n:=by
 intro n
 induction n with
 |zero=>
  intro l h _
  have:l= []:=List.eq_nil_of_length_eq_zero h
  subst this
  exact ⟨Int.le_refl _,by decide⟩
 |succ n ih=>
  intro l h ha
  have hne:l≠ []:=by intro e;rw [e] at h;simp at h
  have e:l=l.dropLast++ [l.getLast hne]:=(List.dropLast_concat_getLast hne).symm
  have hl:l.dropLast.length=n:=by rw [List.length_dropLast,h];omega
  rw [e,List.all_append,Bool.and_eq_true] at ha
  obtain ⟨i1,i2⟩:=ih _ hl ha.1
  have hc:=ha.2
  simp only [List.all_cons,List.all_nil,Bool.and_true] at hc
  rw [Xgp,Bool.and_eq_true,decide_eq_true_iff,decide_eq_true_iff] at hc
  rw [e,Xes,Int.pow_succ]
  generalize digits l.dropLast=d at i1 i2
  generalize ((10:Int) ^ n)=p at i1 i2 ⊢
  omega
def dateP (s:Bytes):Int × Bool:=if s.length<1∨10<s.length∨(1<s.length∧s.head? =some 48)∨s.all digC=false then (0,false) else (digits s,decide (digits s≤1000000000))
theorem Xt0 (s:Bytes):(dateP s).2=dateOk s:=by
 unfold dateP dateOk
 have hd:(fun c:UInt8=>decide (48≤c)&&decide (c≤57))=digC:=rfl
 rw [hd]
 by_cases h1:s.length<1
 ·rw [if_pos (.inl h1),Qf (by omega)];rfl
 by_cases h2:10<s.length
 ·rw [if_pos (.inr (.inl h2)),Qf (show ¬s.length≤10 by omega)];simp
 by_cases h3:1<s.length∧s.head? =some 48
 ·rw [if_pos (.inr (.inr (.inl h3)))]
  have:(decide (1<s.length)&&s.head? ==some 48)=true:=by rw [Qt h3.1,h3.2];rfl
  rw [this];simp
 have h3':(decide (1<s.length)&&s.head? ==some 48)=false:=by
  cases h:(decide (1<s.length)&&s.head? ==some 48) with
  |false=>rfl
  |true=>
   rw [Bool.and_eq_true,decide_eq_true_iff,beq_iff_eq] at h
   exact absurd h h3
 rw [h3',Qt (show 1≤s.length by omega),Qt (show s.length≤10 by omega)]
 cases h4:s.all digC
 ·rw [if_pos (.inr (.inr (.inr rfl)))];simp
 ·rw [if_neg (by simp [h1,h2,h3])];simp
set_option maxRecDepth 100000 in
set_option maxHeartbeats 1000000 in
theorem Xpd (s:Bytes) (hs:s.length≤9223372036854775807) (w:World):
 Calls Tryz.prog 195 #[S s] w fun e w'=>e= .returned (.tuple #[.int .i64 (dateP s).1,.bool (dateP s).2])∧Below w.heap.size w w':=by
 by_cases h1:s.length<1
 case pos=>
  have hd1:decide (s.length<1)=true:=Qt h1
  have Hp:=Qh (show dateP s=(0,false) by rw [dateP,if_pos (.inl h1)])
  go_enter Tryz.func195,Tryz.ntmps195
  go_wp2
  go_ret2
  rw [Hp.out]
  exact ⟨rfl,Qb _ _⟩
 have hd1:decide (s.length<1)=false:=Qf h1
 by_cases h2:10<s.length
 case pos=>
  have hd2:decide (10<s.length)=true:=Qt h2
  have Hp:=Qh (show dateP s=(0,false) by rw [dateP,if_pos (.inr (.inl h2))])
  go_enter Tryz.func195,Tryz.ntmps195
  go_wp2
  go_ret2
  rw [Hp.out]
  exact ⟨rfl,Qb _ _⟩
 have hd2:decide (10<s.length)=false:=Qf h2
 have hx0:=run_at Tryz.underlying9 s 0 0 rfl (by omega)
 have he0:((((s.getD 0 0).toNat:Nat):Int)==48)=(s.getD 0 0==UInt8.ofNat 48):=Xuz (s.getD 0 0) 48 (by decide)
 have hh:s.head? =some (s.getD 0 0):=by cases s<;>simp_all
 have hmain:(1<s.length∧s.head? =some 48)∨ ¬(1<s.length∧s.head? =some 48):=Classical.em _
 rcases hmain with h3|h3
 ·have hd3:decide (1<s.length)=true:=Qt h3.1
  have he1:(((s.getD 0 0).toNat:Int)==48)=true:=by
   rw [he0]
   have:=h3.2
   rw [hh] at this
   rw [Option.some.inj this];rfl
  have Hp:=Qh (show dateP s=(0,false) by rw [dateP,if_pos (.inr (.inr (.inl h3)))])
  generalize (s.getD 0 0).toNat=c0 at hx0 he1
  have hc0:c0=48:=by have:=beq_iff_eq.1 he1;omega
  subst hc0
  have h5:=h3.1
  clear h3 he0 hh he1
  go_enter Tryz.func195,Tryz.ntmps195
  go_wp2
  go_ret2
  rw [Hp.out]
  exact ⟨rfl,Qb _ _⟩
 ·have Hp:=Qh (show dateP s=if s.all digC=false then (0,false) else (digits s,decide (digits s≤1000000000)) by
   rw [dateP]
   by_cases h4:s.all digC=false
   ·rw [if_pos (.inr (.inr (.inr h4))),if_pos h4]
   ·rw [if_neg (by simp [h1,h2,h3];simpa using h4),if_neg h4])
  have hcase:(¬1<s.length∧decide (1<s.length)=false)∨(1<s.length∧decide (1<s.length)=true∧(((s.getD 0 0).toNat:Int)==48)=false):=by
   by_cases h5:1<s.length
   ·right
    refine ⟨h5,Qt h5,?_⟩
    rw [he0,beq_eq_false_iff_ne]
    intro e
    exact h3 ⟨h5,by rw [hh,e];rfl⟩
   ·exact .inl ⟨h5,Qf h5⟩
  generalize (s.getD 0 0).toNat=c0 at hx0 hcase
  clear h3 he0 hh
  have H10:s.length≤10:=by omega
  rcases hcase with ⟨h5,hd3⟩|⟨h5,hd3,he3⟩
  all_goals
   go_enter Tryz.func195,Tryz.ntmps195
   go_wp2_with fail
   go_loop [4,5] (fun s4 s5=> ∃k:Nat,k≤s.length∧s5= .int .i64 k∧s4= .int .i64 (digits (s.take k))∧(s.take k).all digC=true) (fun _ i=>s.length-(intOf i).toNat)
   case atStart=>exact ⟨0,Nat.zero_le _,rfl,rfl,rfl⟩
   case round=>
    obtain ⟨k,hk,rfl,rfl,hr⟩:=hrel
    have hdb:=Xl7 k (s.take k) (by rw [List.length_take];omega) hr
    have Hr:=Qh hr;clear hr
    by_cases hlt:k<s.length
    ·have hx:=run_at Tryz.underlying9 s (k:Int) k rfl hlt
     have hdc:=Xgp (s.getD k 0)
     have hpk:(10:Int) ^ k≤10000000000:=by
      have:(10:Nat) ^ k≤10 ^ 10:=Nat.pow_le_pow_right (by decide) (by omega)
      have h2:((10 ^ k:Nat):Int)≤((10 ^ 10:Nat):Int):=by exact_mod_cast this
      simpa using h2
     have htk:s.take (k+1)=s.take k++ [s.getD k 0]:=by rw [List.take_succ_eq_append_getElem hlt];simp [List.getD,hlt]
     have hds:digits (s.take (k+1))=10*digits (s.take k)+(((s.getD k 0).toNat:Int)-48):=by rw [htk,Xes]
     have hmem:s.getD k 0∈s:=by simp [List.getD,hlt]
     have hc256:(s.getD k 0).toNat<256:=(s.getD k 0).toNat_lt
     generalize s.getD k 0=ch at hdc htk hx hc256 hds hmem
     generalize ch.toNat=c at hdc hx hc256 hds
     generalize digits (s.take k)=n at hdb hds ⊢
     generalize ((10:Int) ^ k)=p10 at hdb hpk
     have Htk:=Qh htk
     have Hds:=Qh hds
     have Hmem:=Qh hmem
     clear htk hds hmem
     by_cases hc1:48≤c
     case neg=>
      have d48:decide ((c:Int)<48)=true:=Qt (by omega)
      have Hn:=Qh (show dateP s=(0,false) by
       rw [Hp.out,if_pos]
       cases h:s.all digC with
       |false=>rfl
       |true=>
        have:=List.all_eq_true.1 h ch Hmem.out
        rw [hdc,Qf hc1] at this
        exact absurd this (by simp))
      clear hdc hc1
      go_wp2
      go_ret2
      rw [Hn.out]
      exact ⟨rfl,Qb _ _⟩
     have d48:decide ((c:Int)<48)=false:=Qf (by omega)
     by_cases hc2:c≤57
     case neg=>
      have d57:decide (57<(c:Int))=true:=Qt (by omega)
      have Hn:=Qh (show dateP s=(0,false) by
       rw [Hp.out,if_pos]
       cases h:s.all digC with
       |false=>rfl
       |true=>
        have:=List.all_eq_true.1 h ch Hmem.out
        rw [hdc,Qf hc2] at this
        exact absurd this (by simp))
      clear hdc hc2
      go_wp2
      go_ret2
      rw [Hn.out]
      exact ⟨rfl,Qb _ _⟩
     have d57:decide (57<(c:Int))=false:=Qf (by omega)
     have Hdc:=Qh (show digC ch=true by rw [hdc,Qt hc1,Qt hc2];rfl)
     clear hdc
     go_wp2
     go_round
     case rel=>exact ⟨k+1,by omega,by go_num,by rw [Hds.out];go_num,by rw [Htk.out,List.all_append,Hr.out];simp [Hdc.out]⟩
     case measure=>simp [intOf];omega
    ·have hall:s.take k=s:=List.take_of_length_le (by omega)
     rw [hall] at Hr hdb ⊢
     have Hn:=Qh (show dateP s=(digits s,decide (digits s≤1000000000)) by rw [Hp.out,if_neg (by rw [Hr.out];simp)])
     clear hall
     go_wp2
     go_ret2
     rw [Hn.out]
     exact ⟨rfl,Qb _ _⟩
end Go.Proofs.YtdeknddamidldaaGreatDoor
namespace Go.Proofs.YtdeknddamidldaaGreatDoor
def netP (s:Bytes):Bytes:=Lib.itoa s.length++ [58]++s++ [44]
def netsP:List Bytes→Bytes
 | []=> []
 |s::l=>netP s++netsP l
def numP (n:Int):Bytes:=Lib.itoa n++ [32]
theorem Xf7 (l m:List Bytes):netsP (l++m)=netsP l++netsP m:=by
 induction l with
 |nil=>rfl
 |cons s l ih=>rw [List.cons_append,netsP,netsP,ih,List.append_assoc]
theorem Xiy (n w:Nat) (hn:n<10 ^ w) (hw:1≤w):Lib.nDigits n≤w:=by
 induction w generalizing n with
 |zero=>omega
 |succ w ih=>
  by_cases h:n<10
  ·rw [Lib.nDigits_small h];omega
  ·rw [Lib.nDigits_big h]
   rw [Nat.pow_succ] at hn
   rcases Nat.eq_zero_or_pos w with h0|h0
   ·subst h0;simp at hn;omega
   ·have:=ih (n / 10) (by omega) h0;omega
theorem Xd0 (n:Nat) (h:n≤140737488355328):(Lib.itoa (n:Int)).length≤16:=by
 have:Lib.itoa (n:Int)=Lib.decDigits n:=by simp [Lib.itoa]
 rw [this,Lib.decDigits_length]
 exact Xiy n 16 (by omega) (by omega)
theorem Xal (s:Bytes) (h:s.length≤100000000):(netP s).length≤s.length+18:=by
 have:=Xd0 s.length (by omega)
 simp [netP];omega
theorem Xbm (n:Nat) (h:n≤140737488355328):(numP n).length≤17:=by
 have:=Xd0 n h
 simp [numP];omega
structure DgOk (x:Ent):Prop where
 kind:x.kind=1∨x.kind=2∨x.kind=3
 natt:x.attrs.length≤16
 att:∀a∈x.attrs,a.k.length≤32∧a.v.length≤64
 target:x.target.length≤200
 s0:0≤x.size
 s1:x.size≤65536
 digest:x.digest.length≤32
 path:x.path.length≤200
 deep:(els x.path).length≤8
theorem Xh8:∀ {l:List At} {p:Option At},chkFrom p l=0→ ∀a∈l,a.k.length≤32∧a.v.length≤64
 | [],_,_,a,ha=>by cases ha
 |x::l,p,h,a,ha=>by
  unfold chkFrom at h
  by_cases h1:atErr x≠0
  ·rw [if_pos h1] at h;exact absurd h h1
  rw [if_neg h1] at h
  split at h
  ·omega
  split at h
  ·omega
  rcases List.mem_cons.1 ha with rfl|ha
  ·have h2:atErr a=0:=by omega
   unfold atErr at h2
   split at h2
   ·omega
   rename_i hk
   split at h2
   ·omega
   simp [keyOk] at hk
   omega
  ·exact Xh8 h a ha
theorem Xu9 {l:List At} (h:chk l=0):l.length≤16∧ ∀a∈l,a.k.length≤32∧a.v.length≤64:=by
 unfold chk at h
 split at h
 ·omega
 ·exact ⟨by omega,Xh8 h⟩
def rootE:Ent:=⟨2,[],[],[],0,[],[]⟩
def Deep (n:Nat) (x:Ent):Prop:=10≤(els x.path).length+n
section
variable (H:Bytes→Bytes) (hH:∀s,(H s).length≤32)
abbrev merkP (n:Nat) (t:List Ent) (x:Ent):Bytes:=merkF H netP numP nameP n t x
abbrev frontN (x:Ent):Bytes:=frontP netP numP nameP x
theorem Xe8 (k:Int):(nameP k).length≤7:=by
 unfold nameP
 repeat' split
 all_goals simp
def attP (l:List At):Bytes:=numP l.length++l.flatMap fun a=>netP a.k++netP a.v
theorem Xkg:∀(l:List At),(∀a∈l,a.k.length≤32∧a.v.length≤64)→(l.flatMap fun a=>netP a.k++netP a.v).length≤132*l.length
 | [],_=>by simp
 |a::l,h=>by
  have h1:=h a (List.mem_cons_self ..)
  have h2:=Xkg l fun b hb=>h b (List.mem_cons_of_mem _ hb)
  have h3:=Xal a.k (by omega)
  have h4:=Xal a.v (by omega)
  simp only [List.flatMap_cons,List.length_append,List.length_cons]
  omega
theorem Xt6 {l:List At} (hn:l.length≤16) (h:∀a∈l,a.k.length≤32∧a.v.length≤64):(attP l).length≤2200:=by
 have h1:=Xkg l h
 have h2:=Xbm l.length (by omega)
 unfold attP
 rw [List.length_append]
 omega
def dirText (n:Nat) (t:List Ent) (x:Ent) (l:List Ent):Bytes:=frontN x++numP (listT t x.path).length++l.flatMap fun y=>netP (lastP y.path)++netP (merkP H n t y)
end
end Go.Proofs.YtdeknddamidldaaGreatDoor
namespace Go.Proofs.YtdeknddamidldaaGreatDoor
open Go.RowKit
def rotr (d m x:Int):Int:=bits .or .u32 (x / d) (x*m%4294967296)
theorem Xcs (k:IntKind) (x y:Int):bits .or k x y=bits .or k y x:=by
 simp only [bits,BitVec.or_comm]
def RotAt (k d m:Int):Prop:=(k=16∧d=65536∧m=65536)∨(k=12∧d=4096∧m=1048576)∨(k=8∧d=256∧m=16777216)∨(k=7∧d=128∧m=33554432)
set_option maxRecDepth 100000 in
theorem Xfj (x:Int) (k d m:Int) (hk:RotAt k d m) (w:World):
 Calls Tryz.prog 173 #[.int .u32 x,.int .i64 (-k)] w fun e w'=>e= .returned (.int .u32 (rotr d m x))∧w'=w:=by
 rcases hk with ⟨rfl,rfl,rfl⟩|⟨rfl,rfl,rfl⟩|⟨rfl,rfl,rfl⟩|⟨rfl,rfl,rfl⟩
 ·have e1:IntKind.u64.wrap (-16)=18446744073709551600:=by decide
  have e2:bits .and .u64 18446744073709551600 31=16:=by decide
  go_enter Tryz.func173,Tryz.ntmps173
  go_wp2
  go_ret
  exact ⟨Xac (Xcs _ _ _),rfl⟩
 ·have e1:IntKind.u64.wrap (-12)=18446744073709551604:=by decide
  have e2:bits .and .u64 18446744073709551604 31=20:=by decide
  go_enter Tryz.func173,Tryz.ntmps173
  go_wp2
  go_ret
  exact ⟨Xac (Xcs _ _ _),rfl⟩
 ·have e1:IntKind.u64.wrap (-8)=18446744073709551608:=by decide
  have e2:bits .and .u64 18446744073709551608 31=24:=by decide
  go_enter Tryz.func173,Tryz.ntmps173
  go_wp2
  go_ret
  exact ⟨Xac (Xcs _ _ _),rfl⟩
 ·have e1:IntKind.u64.wrap (-7)=18446744073709551609:=by decide
  have e2:bits .and .u64 18446744073709551609 31=25:=by decide
  go_enter Tryz.func173,Tryz.ntmps173
  go_wp2
  go_ret
  exact ⟨Xac (Xcs _ _ _),rfl⟩
set_option maxRecDepth 100000 in
theorem Xk3 (x:Int) (k d m:Int) (hk:RotAt k d m) (w:World):
 Calls Tryz.prog 193 #[.int .u32 x,.int .u64 k] w fun e w'=>e= .returned (.int .u32 (rotr d m x))∧w'=w:=by
 rcases hk with ⟨rfl,rfl,rfl⟩|⟨rfl,rfl,rfl⟩|⟨rfl,rfl,rfl⟩|⟨rfl,rfl,rfl⟩
 all_goals
  go_enter Tryz.func193,Tryz.ntmps193
  go_wp2
  go_ret
  exact ⟨Xac rfl,rfl⟩
def row (l:List Int):Array Value:=(l.map fun x=>Value.int .u32 x).toArray
@[simp] theorem row_size (l:List Int):(row l).size=l.length:=by simp [row]
theorem Xaw {l:List Int} {i:Nat} (h:i<l.length):(row l)[i]? =some (.int .u32 (l.getD i 0)):=by
 simp [row,List.getD,List.getElem?_eq_getElem h]
theorem Xum (l:List Int) (i:Nat) (v:Int):(row l).setIfInBounds i (.int .u32 v)=row (l.set i v):=by
 simp [row,List.map_set]
theorem heap_setCell {w:World} {b i:Nat} {l:List Int} {t:TypeId} {f:Nat × Nat} (v:Int) (h:w.heap[b]? =some (.cells (row l) t f)):(w.setCell ⟨b,i,none⟩ (.int .u32 v)).heap[b]? =some (.cells (row (l.set i v)) t f):=by
 unfold World.setCell
 rw [Array.getElem?_modify,if_pos rfl,h]
 simp [Xum]
theorem Xb7 (w:World) (a:Addr) (u:Value):w.grownBy (w.setCell a u) (some a.block):=
 ⟨rfl,rfl,rfl,by simp [World.setCell],fun k _ hne=>Below.heap_setCell _ _ _ _ (fun e=>hne (by rw [e]))⟩
theorem Xnm {B:Nat} {w w':World} {r:Option Nat} (h:Below B w w') (hB:w.heap.size≤B):w.grownBy w' r:=
 ⟨h.os,h.tape,h.output,h.size,fun k hk _=>h.block k (by omega)⟩
theorem Xc8 {w w1 w2:World} {r:Option Nat} (h:w.grownBy w1 r) (k:w1.grownBy w2 r):w.grownBy w2 r:=
 ⟨k.os.trans h.os,k.tape.trans h.tape,k.output.trans h.output,Nat.le_trans h.size k.size,fun j hj hne=>(k.block j (Nat.lt_of_lt_of_le hj h.size) hne).trans (h.block j hj hne)⟩
theorem Xpu {w w':World} {r:Option Nat} (h:w.grownBy w' r):w.grownBy w'.drew r:=⟨h.os,h.tape,h.output,h.size,h.block⟩
def mixW (a b c d x y:Int):Int × Int × Int × Int:=
 let a1:=(a+(b+x))%4294967296
 let d1:=rotr 65536 65536 (bits .xor .u32 d a1)
 let c1:=(c+d1)%4294967296
 let b1:=rotr 4096 1048576 (bits .xor .u32 b c1)
 let a2:=(a1+(b1+y))%4294967296
 let d2:=rotr 256 16777216 (bits .xor .u32 d1 a2)
 let c2:=(c1+d2)%4294967296
 (a2,rotr 128 33554432 (bits .xor .u32 b1 c2),c2,d2)
def mixP (l:List Int) (a b c d:Nat) (x y:Int):List Int:=
 let r:=mixW (l.getD a 0) (l.getD b 0) (l.getD c 0) (l.getD d 0) x y
 (((l.set a r.1).set b r.2.1).set c r.2.2.1).set d r.2.2.2
theorem Xen (l:List Int) (a b c d:Nat) (x y:Int):(mixP l a b c d x y).length=l.length:=by simp [mixP]
end Go.Proofs.YtdeknddamidldaaGreatDoor
