/-
  Walks and laws that the claim's theorem uses: texts GrA AfB AlA RhS, joined; comments out. Conditions: as each theorem says.
-/
import Derived.Test.YtdeknddamidldaaGreatDoorQ36
import Derived.Test.YtdeknddamidldaaGreatDoorQ35
namespace Go.Proofs.YtdeknddamidldaaGreatDoor
open Go.RowKit
def gr40I (s:Ses):Int:=if gr40 s then 1 else 0
def gr41I (l:List Ses):Int:=if gr41 l then 1 else 0
set_option maxRecDepth 100000 in
set_option maxHeartbeats 4000000 in
theorem Xhe (I:IH) (s:Ses) (ve:Value) (hve:RdS tEnt I ve s.ents) (hwf:∀e∈s.ents,e.Wf) (w:World) (hw:Ok I w):
 Calls Tryz.prog 23 #[sesV s ve] w fun r w'=>r= .returned (.int .i64 (gr40I s))∧Below w.heap.size w w':=by
 have hlen:=hve.len_le
 obtain ⟨ao,co,rfl,_,_,_⟩:=id hve
 have Hv:=Qh hve
 have Hwf:=Qh hwf
 clear hve hwf
 by_cases h1:100<s.prev.length
 ·have d1:decide ((100:Int)<(s.prev.length:Int))=true:=Qt (by omega)
  have Hn:=Qh (show gr40I s=1 by rw [gr40I,gr40,Qt h1];simp)
  clear h1
  go_enter Tryz.func23,Tryz.ntmps23
  go_wp2
  go_ret
  exact ⟨Xac Hn.out.symm,(Qb w.heap.size w).alloc (Qn _) _⟩
 have d1:decide ((100:Int)<(s.prev.length:Int))=false:=Qf (by omega)
 by_cases h2:1000<s.stream.length
 ·have d2:decide ((1000:Int)<(s.stream.length:Int))=true:=Qt (by omega)
  have Hn:=Qh (show gr40I s=1 by rw [gr40I,gr40,Qt h2];simp)
  clear h1 h2
  go_enter Tryz.func23,Tryz.ntmps23
  go_wp2
  go_ret
  exact ⟨Xac Hn.out.symm,(Qb w.heap.size w).alloc (Qn _) _⟩
 have d2:decide ((1000:Int)<(s.stream.length:Int))=false:=Qf (by omega)
 by_cases h3:2100<s.sl.length
 ·have d3:decide ((2100:Int)<(s.sl.length:Int))=true:=Qt (by omega)
  have Hn:=Qh (show gr40I s=1 by rw [gr40I,gr40,Qt h3];simp)
  clear h1 h2 h3
  go_enter Tryz.func23,Tryz.ntmps23
  go_wp2
  go_ret
  exact ⟨Xac Hn.out.symm,(Qb w.heap.size w).alloc (Qn _) _⟩
 have d3:decide ((2100:Int)<(s.sl.length:Int))=false:=Qf (by omega)
 have hgr:gr40 s=((decide (12<s.ents.length)&&decide (s.ents.length≠401)) || s.ents.any greatE):=by
  rw [gr40,Qf h1,Qf h2,Qf h3];rfl
 clear h1 h2 h3
 by_cases h4:12<s.ents.length
 ·have d4:decide ((12:Int)<(s.ents.length:Int))=true:=Qt (by omega)
  by_cases h5:s.ents.length=401
  ·have d5:((s.ents.length:Int) != 401)=false:=by rw [h5];rfl
   have d6:((s.ents.length:Int)==401)=true:=by rw [h5];rfl
   have Hgr:=Qh (show gr40 s=s.ents.any greatE by rw [hgr,show decide (s.ents.length≠401)=false from Qf (by omega),Bool.and_false,Bool.false_or])
   clear hgr h5 h4
   go_enter Tryz.func23,Tryz.ntmps23
   go_wp2_with fail
   have HB0:=Qh (sesB (W:=w) (s:=s) (ve:= .slice ao s.ents.length co) (t:=47) rfl (Qb _ _))
   have hb0:=(Qb w.heap.size w).alloc (Qn _) (.cells #[.int .i64 s.num,.int .i64 s.date,S s.prev,.slice ao s.ents.length co,S s.stream,S s.sl] 47)
   go_loopw [3] (fun s3 wr=> ∃k:Nat,k≤s.ents.length∧s3= .int .i64 k∧(s.ents.take k).any greatE=false∧SesB wr w.heap.size s (.slice ao s.ents.length co)∧Below w.heap.size w wr) (fun i _=>s.ents.length-(intOf i).toNat)
   case atStart=>exact ⟨0,Nat.zero_le _,rfl,rfl,HB0.out,hb0⟩
   case round=>
    clear HB0 hb0
    obtain ⟨k,hk,rfl,hes,hBe,hb⟩:=hrel
    have HBe:=Qh hBe
    have Hes:=Qh hes
    have hwr:Ok I wr:=hw.below (Qn _) hb
    clear hBe hes
    obtain ⟨c0,c1,c2,c3,c4,c5⟩:=HBe.out
    by_cases hlt:k<s.ents.length
    ·obtain ⟨x,vxa,vxx,b,off,cap',hlx,hvv,⟨x0,x1,x2,x3,x4,x5,x6⟩,h1,h2⟩:=Xbt Hv.out hwr k hlt
     cases hvv
     obtain ⟨xa,xc,rfl,_,_,_⟩:=id h1
     obtain ⟨xx,xd,rfl,_,_,_⟩:=id h2
     have hmem:x∈s.ents:=by rw [←hlx];exact List.getElem_mem hlt
     have hxw:=Hwf.out x hmem
     have Hno:=Qh (any_take_succ (p:=greatE) hlt hlx Hes.out)
     have Hyes:=Qh (Xnx (p:=greatE) hlt hlx)
     have Hen:=Qh (fun w hw=>Xem I x _ _ h1 h2 hxw w hw)
     clear hlx h1 h2 hmem hxw Hes
     go_wp2_with fail
     refine (Hen.out _ hwr).mono ?_
     rintro e1 w4 ⟨rfl,hb4⟩
     have HB4:=Qh (HBe.out.thru hb4)
     have hb4':=hb.trans (hb4.mono hb.size)
     clear hb4 HBe c0 c1 c2 c3 c4 c5 x0 x1 x2 x3 x4 x5 x6 Hen
     cases hx0:greatE x
     ·rw [show grE x=0 by rw [grE,hx0];rfl]
      have Hn2:=Qh (Hno.out hx0)
      clear hx0 Hno Hyes
      go_wp2
      go_roundw
      case rel=>exact ⟨k+1,by omega,by go_num,Hn2.out,HB4.out,hb4'⟩
      case measure=>simp [intOf];omega
     ·rw [show grE x=1 by rw [grE,hx0];rfl]
      have Hn:=Qh (show gr40I s=1 by rw [gr40I,Hgr.out,Hyes.out hx0];rfl)
      clear hx0 Hno Hyes
      go_wp2
      go_ret
      exact ⟨Xac Hn.out.symm,hb4'⟩
    ·have Hn:=Qh (show gr40I s=0 by
      have h:=Hes.out
      rw [List.take_of_length_le (by omega)] at h
      rw [gr40I,Hgr.out,h];rfl)
     go_wp2
     go_ret
     exact ⟨Xac Hn.out.symm,hb⟩
  ·have d5:((s.ents.length:Int) != 401)=true:=by simpa using (show (s.ents.length:Int)≠401 by omega)
   have d6:((s.ents.length:Int)==401)=false:=by simpa using (show (s.ents.length:Int)≠401 by omega)
   have Hn:=Qh (show gr40I s=1 by rw [gr40I,hgr,Qt h4,Qt h5];simp)
   clear hgr h5 h4
   go_enter Tryz.func23,Tryz.ntmps23
   go_wp2
   go_ret
   exact ⟨Xac Hn.out.symm,(Qb w.heap.size w).alloc (Qn _) _⟩
 ·have d4:decide ((12:Int)<(s.ents.length:Int))=false:=Qf (by omega)
  have Hgr:=Qh (show gr40 s=s.ents.any greatE by rw [hgr,Qf h4];rfl)
  clear hgr h4
  go_enter Tryz.func23,Tryz.ntmps23
  go_wp2_with fail
  have HB0:=Qh (sesB (W:=w) (s:=s) (ve:= .slice ao s.ents.length co) (t:=47) rfl (Qb _ _))
  have hb0:=(Qb w.heap.size w).alloc (Qn _) (.cells #[.int .i64 s.num,.int .i64 s.date,S s.prev,.slice ao s.ents.length co,S s.stream,S s.sl] 47)
  go_loopw [3] (fun s3 wr=> ∃k:Nat,k≤s.ents.length∧s3= .int .i64 k∧(s.ents.take k).any greatE=false∧SesB wr w.heap.size s (.slice ao s.ents.length co)∧Below w.heap.size w wr) (fun i _=>s.ents.length-(intOf i).toNat)
  case atStart=>exact ⟨0,Nat.zero_le _,rfl,rfl,HB0.out,hb0⟩
  case round=>
   clear HB0 hb0
   obtain ⟨k,hk,rfl,hes,hBe,hb⟩:=hrel
   have HBe:=Qh hBe
   have Hes:=Qh hes
   have hwr:Ok I wr:=hw.below (Qn _) hb
   clear hBe hes
   obtain ⟨c0,c1,c2,c3,c4,c5⟩:=HBe.out
   by_cases hlt:k<s.ents.length
   ·obtain ⟨x,vxa,vxx,b,off,cap',hlx,hvv,⟨x0,x1,x2,x3,x4,x5,x6⟩,h1,h2⟩:=Xbt Hv.out hwr k hlt
    cases hvv
    obtain ⟨xa,xc,rfl,_,_,_⟩:=id h1
    obtain ⟨xx,xd,rfl,_,_,_⟩:=id h2
    have hmem:x∈s.ents:=by rw [←hlx];exact List.getElem_mem hlt
    have hxw:=Hwf.out x hmem
    have Hno:=Qh (any_take_succ (p:=greatE) hlt hlx Hes.out)
    have Hyes:=Qh (Xnx (p:=greatE) hlt hlx)
    have Hen:=Qh (fun w hw=>Xem I x _ _ h1 h2 hxw w hw)
    clear hlx h1 h2 hmem hxw Hes
    go_wp2_with fail
    refine (Hen.out _ hwr).mono ?_
    rintro e1 w4 ⟨rfl,hb4⟩
    have HB4:=Qh (HBe.out.thru hb4)
    have hb4':=hb.trans (hb4.mono hb.size)
    clear hb4 HBe c0 c1 c2 c3 c4 c5 x0 x1 x2 x3 x4 x5 x6 Hen
    cases hx0:greatE x
    ·rw [show grE x=0 by rw [grE,hx0];rfl]
     have Hn2:=Qh (Hno.out hx0)
     clear hx0 Hno Hyes
     go_wp2
     go_roundw
     case rel=>exact ⟨k+1,by omega,by go_num,Hn2.out,HB4.out,hb4'⟩
     case measure=>simp [intOf];omega
    ·rw [show grE x=1 by rw [grE,hx0];rfl]
     have Hn:=Qh (show gr40I s=1 by rw [gr40I,Hgr.out,Hyes.out hx0];rfl)
     clear hx0 Hno Hyes
     go_wp2
     go_ret
     exact ⟨Xac Hn.out.symm,hb4'⟩
   ·have Hn:=Qh (show gr40I s=0 by
     have h:=Hes.out
     rw [List.take_of_length_le (by omega)] at h
     rw [gr40I,Hgr.out,h];rfl)
    go_wp2
    go_ret
    exact ⟨Xac Hn.out.symm,hb⟩
set_option maxRecDepth 100000 in
set_option maxHeartbeats 4000000 in
theorem Xek (I:IH) (v:Value) (l:List Ses) (hv:RdS tSes I v l) (hwf:∀x∈l,x.Wf) (w:World) (hw:Ok I w):
 Calls Tryz.prog 11 #[v] w fun r w'=>r= .returned (.int .i64 (gr41I l))∧Below w.heap.size w w':=by
 have hlen:=hv.len_le
 obtain ⟨ao,cap,rfl,_,_,_⟩:=id hv
 have Hv:=Qh hv
 have Hwf:=Qh hwf
 clear hv hwf
 by_cases h8:8<l.length
 ·have d1:decide ((8:Int)<(l.length:Int))=true:=Qt (by omega)
  have Hn:=Qh (show gr41I l=1 by rw [gr41I,gr41,Qt h8];simp)
  clear h8
  go_enter Tryz.func11,Tryz.ntmps11
  go_wp2
  go_ret
  exact ⟨Xac Hn.out.symm,Qb _ _⟩
 have d1:decide ((8:Int)<(l.length:Int))=false:=Qf (by omega)
 have Hgr:=Qh (show gr41 l=(l.any gr41s || decide (20000<wtL l)) by rw [gr41,Qf h8];rfl)
 go_enter Tryz.func11,Tryz.ntmps11
 go_wp2_with fail
 go_loopw [3,13] (fun s3 s13 wr=> ∃k:Nat,k≤l.length∧s13= .int .i64 k∧s3= .int .i64 (wtL (l.take k))∧(l.take k).any gr41s=false∧Below w.heap.size w wr) (fun _ i _=>l.length-(intOf i).toNat)
 case atStart=>exact ⟨0,Nat.zero_le _,rfl,rfl,rfl,Qb _ _⟩
 case round=>
  obtain ⟨k,hk,rfl,rfl,hr,hb⟩:=hrel
  have Hr:=Qh hr;clear hr
  have hwr:Ok I wr:=hw.below (Qn _) hb
  have hbd:wtL (l.take k)≤1300*k:=by
   have h1:=Xv6 (l:=l.take k) fun x hx=>by
    have:=(Xj3 (Hwf.out x (List.mem_of_mem_take hx)) (by have:=List.any_eq_false.1 Hr.out x hx;simpa using this))
    exact ⟨this.stream,this.nents⟩
   rw [List.length_take] at h1
   exact Nat.le_trans h1 (Nat.mul_le_mul_left _ (by omega))
  by_cases hlt:k<l.length
  ·obtain ⟨x,ve,b,off,cap',hlx,hvv,⟨c0,c1,c2,c3,c4,c5⟩,h1⟩:=Xdc Hv.out hwr k hlt
   cases hvv
   have hxw:=Hwf.out x (by rw [←hlx];exact List.getElem_mem hlt)
   have Hno:=Qh (any_take_succ (p:=gr41s) hlt hlx Hr.out)
   have Hyes:=Qh (Xnx (p:=gr41s) hlt hlx)
   have Hwt:=Qh (Xsp hlt hlx)
   have hxl:=h1.len_le
   obtain ⟨oe,ce,rfl,_,_,_⟩:=id h1
   have H40:=Qh (fun w hw=>Xhe I x _ h1 hxw.ents w hw)
   have Hve:=Qh h1
   have Hxw:=Qh hxw
   clear hlx h1 hxw Hr
   have hba:=hb.alloc hb.size (.cells #[.int .i64 x.num,.int .i64 x.date,S x.prev,.slice oe x.ents.length ce,S x.stream,S x.sl] 47)
   by_cases h30:30<x.ents.length
   ·have d30:decide ((30:Int)<(x.ents.length:Int))=true:=Qt (by omega)
    have Hn:=Qh (show gr41I l=1 by rw [gr41I,Hgr.out,Hyes.out (by rw [gr41s,Qt h30];rfl)];rfl)
    clear h30 Hno Hyes
    go_wp2
    go_ret
    exact ⟨Xac Hn.out.symm,hba⟩
   have d30:decide ((30:Int)<(x.ents.length:Int))=false:=Qf (by omega)
   go_wp2_with fail
   refine (H40.out _ (hwr.alloc _)).mono ?_
   rintro e1 w4 ⟨rfl,hb4⟩
   have HB4:=Qh (sesB (s:=x) rfl hb4)
   have hb4':=hba.trans (hb4.mono hba.size)
   have hok4:Ok I w4:=(hwr.alloc _).below (Qn _) hb4
   clear hb4 H40 c0 c1 c2 c3 c4 c5 hwr
   obtain ⟨c0,c1,c2,c3,c4,c5⟩:=HB4.out
   cases hx0:gr40 x
   case true=>
    rw [show gr40I x=1 by rw [gr40I,hx0];rfl]
    have Hn:=Qh (show gr41I l=1 by rw [gr41I,Hgr.out,Hyes.out (by rw [gr41s,hx0,Bool.or_true])];rfl)
    clear hx0 Hno Hyes
    go_wp2
    go_ret
    exact ⟨Xac Hn.out.symm,hb4'⟩
   rw [show gr40I x=0 by rw [gr40I,hx0];rfl]
   have hs0:gr41s x=false:=by rw [gr41s,hx0,Qf h30];rfl
   have Hn1:=Qh (Hno.out hs0)
   have HG:=Qh (Xno hx0)
   have hst:=(Xno hx0).2.1
   have hwx:wtL (l.take (k+1))=wtL (l.take k)+(x.stream.length+10*x.ents.length):=Hwt.out
   have Hwx:=Qh hwx
   generalize wtL (l.take k)=n0 at hbd hwx Hwx ⊢
   clear hx0 hs0 Hno Hyes hwx
   go_wp2_with fail
   go_loopw [39] (fun s39 wq=> ∃j:Nat,j≤x.ents.length∧s39= .int .i64 j∧Below w4.heap.size w4 wq) (fun i _=>x.ents.length-(intOf i).toNat)
   case atStart=>exact ⟨0,Nat.zero_le _,rfl,Qb _ _⟩
   case round=>
    obtain ⟨j,hj,rfl,hbq⟩:=hrel
    have hok:Ok I wr:=hok4.below (Qn _) hbq
    by_cases hjt:j<x.ents.length
    ·obtain ⟨y,vya,vyx,b9,off9,cap9,hly,hvv,⟨x0,x1,x2,x3,x4,x5,x6⟩,h1,h2⟩:=Xbt Hve.out hok j hjt
     cases hvv
     obtain ⟨xa,xc,rfl,_,_,_⟩:=id h1
     obtain ⟨xx,xd,rfl,_,_,_⟩:=id h2
     have hmem:y∈x.ents:=by rw [←hly];exact List.getElem_mem hjt
     have Hen:=Qh (fun w hw=>Xem I y _ _ h1 h2 (Hxw.out.ents y hmem) w hw)
     rw [show grE y=0 by rw [grE,HG.out.2.2.2.2 y hmem];rfl] at Hen
     clear hly h1 h2 hmem
     go_wp2_with fail
     refine (Hen.out _ (hok.alloc _)).mono ?_
     rintro e1 w6 ⟨rfl,hb6⟩
     have hb6':=(hbq.alloc hbq.size (.cells #[.int .i64 y.kind,S y.path,.slice xa y.attrs.length xc,S y.target,.int .i64 y.size,S y.digest,.slice xx y.exts.length xd] 39)).trans (hb6.mono (by have:=hbq.size;simp;omega))
     clear hb6 x0 x1 x2 x3 x4 x5 x6 Hen
     go_wp2
     go_roundw
     case rel=>exact ⟨j+1,by omega,by go_num,hb6'⟩
     case measure=>simp [intOf];omega
    ·go_wp2
     go_roundw
     case rel=>exact ⟨k+1,by omega,by go_num,by rw [Hwx.out];go_num,Hn1.out,hb4'.trans (hbq.mono hb4'.size)⟩
     case measure=>simp [intOf];omega
  ·have hall:l.take k=l:=List.take_of_length_le (by omega)
   rw [hall] at Hr hbd ⊢
   have Hgr2:=Qh (show gr41 l=decide (20000<wtL l) by rw [Hgr.out,Hr.out];rfl)
   clear hall Hr Hgr
   by_cases h2:20000<wtL l
   ·have dI:decide ((20000:Int)<((wtL l:Nat):Int))=true:=Qt (by omega)
    have Hn:=Qh (show gr41I l=1 by rw [gr41I,Hgr2.out,Qt h2];rfl)
    clear h2
    go_wp2
    go_ret
    exact ⟨Xac Hn.out.symm,hb⟩
   ·have dI:decide ((20000:Int)<((wtL l:Nat):Int))=false:=Qf (by omega)
    have Hn:=Qh (show gr41I l=0 by rw [gr41I,Hgr2.out,Qf h2];rfl)
    clear h2
    go_wp2
    go_ret
    exact ⟨Xac Hn.out.symm,hb⟩
def right41 (l:List Ses):Bool:= !gr41 l&&chkH l==0
def right41I (l:List Ses):Int:=if right41 l then 1 else 0
theorem Xdx {l:List Ses} (hw:∀x∈l,x.Wf) (h:right41 l=true):(l.length≤8∧(∀x∈l,SesG x)∧wtL l≤20000)∧chkH l=0:=by
 unfold right41 at h
 rw [Bool.and_eq_true] at h
 exact ⟨Xdo hw (by simpa using h.1),by simpa using h.2⟩
set_option maxRecDepth 100000 in
set_option maxHeartbeats 1000000 in
theorem Xc2 (I:IH) (v:Value) (l:List Ses) (hv:RdS tSes I v l) (hwf:∀x∈l,x.Wf) (w:World) (hw:Ok I w):
 Calls Tryz.prog 19 #[v] w fun r w'=>r= .returned (.int .i64 (right41I l))∧Below w.heap.size w w':=by
 have Hgr:=Qh (Xek I v l hv hwf w hw)
 have Hck:=Qh (fun (h:gr41 l=false) w hw=>Xel I v l hv (Xdo hwf h).2.1 (by have:=(Xdo hwf h).1;omega) w hw)
 obtain ⟨ao,cap,rfl,_,_,_⟩:=id hv
 clear hv hwf
 cases hg:gr41 l
 ·have Hc:=Qh (Hck.out hg)
  have Hn:=Qh (show right41 l=(chkH l==0) by rw [right41,hg];rfl)
  rw [show gr41I l=0 by rw [gr41I,hg];rfl] at Hgr
  obtain ⟨E,hE⟩:∃E,chkH l=E:=⟨_,rfl⟩
  rw [hE] at Hn Hc
  clear hg hE Hck
  by_cases h0:E=0
  ·have Hn2:=Qh (show right41 l=true by rw [Hn.out,h0];rfl)
   subst h0
   go_enter Tryz.func19,Tryz.ntmps19
   go_wp2_with fail
   refine Hgr.out.mono ?_
   rintro e1 w1 ⟨rfl,hb1⟩
   have hok1:=hw.below (Qn _) hb1
   go_wp2_with fail
   refine (Hc.out w1 hok1).mono ?_
   rintro e2 w2 ⟨rfl,hb2⟩
   go_wp2
   go_ret
   exact ⟨Xac (by rw [right41I,Hn2.out];rfl),hb1.trans (hb2.mono hb1.size)⟩
  ·have Hn2:=Qh (show right41 l=false by rw [Hn.out];simpa using h0)
   have he:(E != 0)=true:=by simpa using h0
   clear h0
   go_enter Tryz.func19,Tryz.ntmps19
   go_wp2_with fail
   refine Hgr.out.mono ?_
   rintro e1 w1 ⟨rfl,hb1⟩
   have hok1:=hw.below (Qn _) hb1
   go_wp2_with fail
   refine (Hc.out w1 hok1).mono ?_
   rintro e2 w2 ⟨rfl,hb2⟩
   go_wp2
   go_ret
   exact ⟨Xac (by rw [right41I,Hn2.out];rfl),hb1.trans (hb2.mono hb1.size)⟩
 ·have Hn:=Qh (show right41 l=false by rw [right41,hg];rfl)
  rw [show gr41I l=1 by rw [gr41I,hg];rfl] at Hgr
  clear hg Hck
  go_enter Tryz.func19,Tryz.ntmps19
  go_wp2_with fail
  refine Hgr.out.mono ?_
  rintro e1 w1 ⟨rfl,hb1⟩
  go_wp2
  go_ret
  exact ⟨Xac (by rw [right41I,Hn.out];rfl),hb1⟩
theorem Xvp:SesG sB:=by
 have hp:sB.prev.length=32:=Xue
 refine ⟨by decide,by decide,by omega,by decide,fun e he=> ?_,fun e he=> ?_,fun e he=> ?_,fun e he=> ?_,by decide,by decide⟩<;>(have h:e=yR:=by simpa [sB] using he)<;>subst h
 ·exact Xvn
 ·decide
 ·decide
 ·decide
theorem Xjl:∀x∈ [sA,sB],SesG x:=fun x hx=>by
 rcases List.mem_cons.1 hx with rfl|hx
 ·exact Xqo
 ·rw [List.mem_singleton.1 hx];exact Xvp
theorem Xuw:∀x∈ [sA,sB],∀e∈x.ents,1≤e.kind:=fun x hx e he=>by
 rcases List.mem_cons.1 hx with rfl|hx
 ·have h:e=yA:=by simpa [sA] using he
  subst h;decide
 ·rw [List.mem_singleton.1 hx] at he
  have h:e=yR:=by simpa [sB] using he
  subst h;decide
theorem Xsx:treeR [sA,sB] 1=([yA],0):=by
 rw [treeR,if_neg (by decide)]
 show ((aftS nilS [sA]).tree,(0:Int))=_
 rw [Xsk]
theorem Xsw:treeR [sA,sB] 2=([],0):=by
 rw [treeR,if_neg (by decide)]
 show ((aftS nilS [sA,sB]).tree,(0:Int))=_
 rw [Xvk]
 rfl
set_option maxRecDepth 100000 in
set_option maxHeartbeats 2000000 in
theorem Xbx (I:IH) (hI:Glob I) (w:World) (hw:Ok I w):
 Calls Tryz.prog 10 #[] w fun e w'=>e= .returned (.bool true)∧Below w.heap.size w w':=by
 have HI:=Qh hI
 have A0:=Qh ((MAt.start hw).past (.cells (chgRow 1 [97] txtA) 60))
 clear hI
 go_enter Tryz.func10,Tryz.ntmps10
 go_wp2_with fail
 refine (Xm1 I _ A0.out.ok w.heap.size (heap_alloc_new w _)).mono ?_
 rintro e1 w1 ⟨v1,J1,rfl,hb1,hx1,hok1,hr1⟩
 have A1:=Qh ((A0.out.ext hb1 hx1 hok1).past (.cells (chgRow 4 [97] []) 60))
 have R1:=Qh hr1
 obtain ⟨a1,c1,rfl⟩:=hr1.slN (n:=1) rfl
 clear hb1 hx1 hok1 hr1 A0
 go_wp2_with fail
 refine (Xm0 J1 _ R1.out _ A1.out.ok w1.heap.size (heap_alloc_new w1 _)).mono ?_
 rintro e2 w2 ⟨v2,J2,rfl,hb2,hx2,hok2,hr2⟩
 have A2:=Qh (A1.out.ext hb2 hx2 hok2)
 have R2:=Qh hr2
 obtain ⟨a2,c2,rfl⟩:=hr2.slN (n:=2) rfl
 clear hb2 hx2 hok2 hr2 A1 R1
 have Ht1:=Qh (show Calls Tryz.prog 20 #[.slice a2 2 c2,.int .i64 1] w2 (RetL tEnt J2 w2 [yA] 0) from by
  have h:=Xfu J2 (HI.out.mono A2.out.keep) _ _ R2.out Xjl (by decide) 1 w2 A2.out.ok
  rw [Xsx] at h
  exact h)
 go_wp2_with fail
 refine Ht1.out.mono ?_
 rintro e3 w3 ⟨v3,J3,rfl,hb3,hx3,hok3,hr3⟩
 obtain ⟨a3,c3,rfl⟩:=hr3.slN (n:=1) rfl
 have hk3:=hx3.keep A2.out.ok (Qn _)
 have A3:=Qh (A2.out.ext hb3 hx3 hok3)
 have R3:=Qh (R2.out.mono hk3)
 clear hb3 hx3 hok3 hr3 A2 R2 hk3 Ht1
 have Ht2:=Qh (show Calls Tryz.prog 20 #[.slice a2 2 c2,.int .i64 2] w3 (RetL tEnt J3 w3 [] 0) from by
  have h:=Xfu J3 (HI.out.mono A3.out.keep) _ _ R3.out Xjl (by decide) 2 w3 A3.out.ok
  rw [Xsw] at h
  exact h)
 go_wp2_with fail
 refine Ht2.out.mono ?_
 rintro e4 w4 ⟨v4,J4,rfl,hb4,hx4,hok4,hr4⟩
 obtain ⟨a4,c4,rfl⟩:=hr4.slN (n:=0) rfl
 have hk4:=hx4.keep A3.out.ok (Qn _)
 have A4:=Qh (A3.out.ext hb4 hx4 hok4)
 have R4:=Qh (R3.out.mono hk4)
 clear hb4 hx4 hok4 hr4 A3 R3 hk4 Ht2
 have Hck:=Qh (show Calls Tryz.prog 12 #[.slice a2 2 c2] w4 _ from Xfe J4 (HI.out.mono A4.out.keep) _ _ R4.out Xjl (by decide) w4 A4.out.ok)
 rw [Xv4] at Hck
 go_wp2_with fail
 refine Hck.out.mono ?_
 rintro e5 w5 ⟨rfl,hb5⟩
 have A5:=Qh (A4.out.quiet hb5)
 clear hb5 A4 Hck
 have Hvr:=Qh (show Calls Tryz.prog 17 #[.slice a2 2 c2,S [97]] w5 _ from Xcj J4 (HI.out.mono A5.out.keep) _ _ R4.out Xjl (by decide) Xuw [97] (by decide) w5 A5.out.ok)
 go_wp2_with fail
 refine Hvr.out.mono ?_
 rintro e6 w6 ⟨v6,J6,rfl,hb6,hx6,hok6,hr6⟩
 obtain ⟨a6,c6,rfl⟩:=hr6.slN (n:=2) Xv1
 have hk6:=hx6.keep A5.out.ok (Qn _)
 have A6:=Qh (A5.out.ext hb6 hx6 hok6)
 have R6:=Qh (R4.out.mono hk6)
 clear hb6 hx6 hok6 hr6 A5 R4 hk6 Hvr
 have Has:=Qh (show Calls Tryz.prog 14 #[.slice a2 2 c2,.int .i64 5] w6 _ from Xrm J6 _ _ R6.out 5 w6 A6.out.ok)
 rw [Xvj] at Has
 go_wp2_with fail
 refine Has.out.mono ?_
 rintro e7 w7 ⟨rfl,hb7⟩
 have A7:=Qh (A6.out.quiet hb7)
 go_wp2
 go_ret
 exact ⟨rfl,A7.out.bel⟩
theorem Xps {a b:List Ho} (hl:a.length=b.length) (h:∀i (hi:i<a.length),a[i]=b[i]'(by omega)):a=b:=List.ext_getElem hl fun i h1 _=>h i h1
theorem Xo5 (a b:Ho) (W:World):(binOp .neq 88 (.agg #[S a.p,.int .i64 a.u]) (.agg #[S b.p,.int .i64 b.u])).run Tryz.prog W= .ok (.bool (!decide (a=b))) W:=by
 rw [Xfn _ _ [(9,0,false),(3,1,false)] W (by kernel_rfl) (by kernel_rfl) (by kernel_rfl)]
 obtain ⟨a1,a2⟩:=a
 obtain ⟨b1,b2⟩:=b
 simp [go_sem]
 by_cases h1:a1=b1<;>by_cases h2:a2=b2<;>simp [h1,h2]<;>omega
set_option maxRecDepth 100000 in
set_option maxHeartbeats 1000000 in
theorem Xiq (I:IH) (va vb:Value) (a b:List Ho) (hva:RdS tHo I va a) (hvb:RdS tHo I vb b) (w:World) (hw:Ok I w):
 Calls Tryz.prog 27 #[va,vb] w fun e w'=>e= .returned (.bool (decide (a=b)))∧Below w.heap.size w w':=by
 have hla:=hva.len_le
 have hlb:=hvb.len_le
 obtain ⟨ao,ca,rfl,_,_,_⟩:=id hva
 obtain ⟨bo,cb,rfl,_,_,_⟩:=id hvb
 have Ha:=Qh hva
 have Hb:=Qh hvb
 clear hva hvb
 by_cases hl:a.length=b.length
 case neg=>
  have q1:((a.length:Int) != b.length)=true:=by simpa using (show (a.length:Int)≠b.length by omega)
  have q2:((a.length:Int)==b.length)=false:=by simpa using (show (a.length:Int)≠b.length by omega)
  have Hn:=Qh (show decide (a=b)=false from Qf fun e=>hl (by rw [e]))
  clear hl
  go_enter Tryz.func27,Tryz.ntmps27
  go_wp2
  go_ret
  exact ⟨Xah Hn.out.symm,Qb _ _⟩
 have q1:((a.length:Int) != b.length)=false:=by rw [hl];simp
 have q2:((a.length:Int)==b.length)=true:=by rw [hl];simp
 have Hl:=Qh hl
 have hle:a.length≤b.length:=by omega
 clear hl
 go_enter Tryz.func27,Tryz.ntmps27
 go_wp2_with fail
 go_loopw [5] (fun s5 wr=> ∃k:Nat,k≤a.length∧s5= .int .i64 k∧(∀i (hi:i<a.length),i<k→a[i]=b[i]'(by have:=Hl.out;omega))∧Below w.heap.size w wr) (fun i _=>a.length-(intOf i).toNat)
 case atStart=>exact ⟨0,Nat.zero_le _,rfl,fun i _ h=>absurd h (by omega),Qb _ _⟩
 case round=>
  obtain ⟨k,hk,rfl,hr,hb⟩:=hrel
  have Hr:=Qh hr;clear hr
  have hwr:Ok I wr:=hw.below (Qn _) hb
  by_cases hlt:k<a.length
  ·have hlt2:k<b.length:=by omega
   obtain ⟨x,b1,off1,cap1,hlx,hvv,c0,c1⟩:=hoAt Ha.out hwr k hlt
   cases hvv
   obtain ⟨y,b2,off2,cap2,hly,hvv,d0,d1⟩:=hoAt Hb.out hwr k hlt2
   cases hvv
   have g0:=cell_regrown c0
   have g1:=cell_regrown c1
   have g2:=cell_regrown d0
   have g3:=cell_regrown d1
   have i1:(k:Int)<a.length:=by omega
   have i2:(k:Int)<b.length:=by omega
   have Hlx:=Qh hlx
   have Hly:=Qh hly
   clear hlx hly
   have hneq:=Xo5 x y
   by_cases hpq:x=y
   ·rw [Qt hpq] at hneq
    have Hn:=Qh (show ∀i (hi:i<a.length),i<k+1→a[i]=b[i]'(by have:=Hl.out;omega) from fun i hi h=>by
     by_cases hik:i<k
     ·exact Hr.out i hi hik
     ·have:i=k:=by omega
      subst this
      rw [Hlx.out,Hly.out,hpq])
    clear hpq
    go_wp2_with fail
    refine wp_region_quiet_below (by kernel_rfl) (by kernel_rfl) ?_
    repeat (go_big_quiet_step ((fail)))
    refine wpQuiet_nil ?_
    intro w2 hwq
    have hb2:Below (wr).heap.size (wr) w2:=by
     obtain ⟨pq,rfl⟩:=hwq
     exact below_regrown _ _ _
    clear hwq
    go_wp2
    go_roundw
    case rel=>exact ⟨k+1,by omega,by go_num,Hn.out,hb.trans (hb2.mono hb.size)⟩
    case measure=>simp [intOf];omega
   ·rw [Qf hpq] at hneq
    have Hn:=Qh (show decide (a=b)=false from Qf fun e=>hpq (by
     have h1:=Hlx.out
     have h2:=Hly.out
     subst e
     rw [←h1,←h2]))
    clear hpq
    go_wp2_with fail
    refine wp_region_quiet_below (by kernel_rfl) (by kernel_rfl) ?_
    repeat (go_big_quiet_step ((fail)))
    refine wpQuiet_nil ?_
    intro w2 hwq
    have hb2:Below (wr).heap.size (wr) w2:=by
     obtain ⟨pq,rfl⟩:=hwq
     exact below_regrown _ _ _
    clear hwq
    go_wp2
    go_ret
    exact ⟨Xah Hn.out.symm,hb.trans (hb2.mono hb.size)⟩
  ·have Hn:=Qh (show decide (a=b)=true from Qt (Xps Hl.out fun i hi=>Hr.out i hi (by omega)))
   go_wp2
   go_ret
   exact ⟨Xah Hn.out.symm,hb⟩
end Go.Proofs.YtdeknddamidldaaGreatDoor
