/-
  Walks and laws that the claim's theorem uses: texts GrA, joined; comments out. Conditions: as each theorem says.
-/
import Derived.Test.YtdodihnehppnmaaGreatDoorTO23
import Derived.Test.YtdodihnehppnmaaGreatDoorTO27
set_option linter.all false
namespace Go.Proofs.YtdodihnehppnmaaGreatDoor
open Go.RowKit
def gr40I (s:Ses):Int:=if gr40 s then 1 else 0
def gr41I (l:List Ses):Int:=if gr41 l then 1 else 0
set_option maxRecDepth 100000 in
set_option maxHeartbeats 4000000 in
theorem Xm4 (I:IH) (s:Ses) (ve:Value) (hve:RdS tEnt I ve s.ents) (hwf:∀e∈s.ents,e.Wf) (w:World) (hw:Ok I w):
 Calls Tryz.prog 33 #[sesV s ve] w fun r w'=>r= .returned (.int .i64 (gr40I s))∧Below w.heap.size w w':=by
 have hlen:=hve.len_le
 obtain ⟨ao,co,rfl,_,_,_⟩:=id hve
 have Hv:=Qh hve
 have Hwf:=Qh hwf
 clear hve hwf
 by_cases h1:100<s.prev.length
 ·have d1:decide ((100:Int)<(s.prev.length:Int))=true:=Qt (by omega)
  have Hn:=Qh (show gr40I s=1 by rw [gr40I,gr40,Qt h1];simp)
  clear h1
  go_enter Tryz.func33,Tryz.ntmps33
  go_wp2
  go_ret
  exact ⟨Xac Hn.out.symm,(Qb w.heap.size w).alloc (Qn _) _⟩
 have d1:decide ((100:Int)<(s.prev.length:Int))=false:=Qf (by omega)
 by_cases h2:1000<s.stream.length
 ·have d2:decide ((1000:Int)<(s.stream.length:Int))=true:=Qt (by omega)
  have Hn:=Qh (show gr40I s=1 by rw [gr40I,gr40,Qt h2];simp)
  clear h1 h2
  go_enter Tryz.func33,Tryz.ntmps33
  go_wp2
  go_ret
  exact ⟨Xac Hn.out.symm,(Qb w.heap.size w).alloc (Qn _) _⟩
 have d2:decide ((1000:Int)<(s.stream.length:Int))=false:=Qf (by omega)
 by_cases h3:2100<s.sl.length
 ·have d3:decide ((2100:Int)<(s.sl.length:Int))=true:=Qt (by omega)
  have Hn:=Qh (show gr40I s=1 by rw [gr40I,gr40,Qt h3];simp)
  clear h1 h2 h3
  go_enter Tryz.func33,Tryz.ntmps33
  go_wp2
  go_ret
  exact ⟨Xac Hn.out.symm,(Qb w.heap.size w).alloc (Qn _) _⟩
 have d3:decide ((2100:Int)<(s.sl.length:Int))=false:=Qf (by omega)
 have hgr:gr40 s=((decide (12<s.ents.length)&&decide (s.ents.length≠401)) || s.ents.any greatE):=by
  rw [gr40,Qf h1,Qf h2,Qf h3];rfl
 clear h1 h2 h3
 by_cases h4:12<s.ents.length
 ·have d4:decide ((12:Int)<(s.ents.length:Int))=true:=Qt (by omega)
  by_cases h5:s.ents.length=401
  ·have d5:((s.ents.length:Int) != 401)=false:=by rw [h5];rfl
   have d6:((s.ents.length:Int)==401)=true:=by rw [h5];rfl
   have Hgr:=Qh (show gr40 s=s.ents.any greatE by rw [hgr,show decide (s.ents.length≠401)=false from Qf (by omega),Bool.and_false,Bool.false_or])
   clear hgr h5 h4
   go_enter Tryz.func33,Tryz.ntmps33
   go_wp2_with fail
   have HB0:=Qh (sesB (W:=w) (s:=s) (ve:= .slice ao s.ents.length co) (t:=35) rfl (Qb _ _))
   have hb0:=(Qb w.heap.size w).alloc (Qn _) (.cells #[.int .i64 s.num,.int .i64 s.date,S s.prev,.slice ao s.ents.length co,S s.stream,S s.sl] 35)
   go_loopw [3] (fun s3 wr=> ∃k:Nat,k≤s.ents.length∧s3= .int .i64 k∧(s.ents.take k).any greatE=false∧SesB wr w.heap.size s (.slice ao s.ents.length co)∧Below w.heap.size w wr) (fun i _=>s.ents.length-(intOf i).toNat)
   case atStart=>exact ⟨0,Nat.zero_le _,rfl,rfl,HB0.out,hb0⟩
   case round=>
    clear HB0 hb0
    obtain ⟨k,hk,rfl,hes,hBe,hb⟩:=hrel
    have HBe:=Qh hBe
    have Hes:=Qh hes
    have hwr:Ok I wr:=hw.below (Qn _) hb
    clear hBe hes
    obtain ⟨c0,c1,c2,c3,c4,c5⟩:=HBe.out
    by_cases hlt:k<s.ents.length
    ·obtain ⟨x,vxa,vxx,b,off,cap',hlx,hvv,⟨x0,x1,x2,x3,x4,x5,x6⟩,h1,h2⟩:=Xbu Hv.out hwr k hlt
     cases hvv
     obtain ⟨xa,xc,rfl,_,_,_⟩:=id h1
     obtain ⟨xx,xd,rfl,_,_,_⟩:=id h2
     have hmem:x∈s.ents:=by rw [←hlx];exact List.getElem_mem hlt
     have hxw:=Hwf.out x hmem
     have Hno:=Qh (any_take_succ (p:=greatE) hlt hlx Hes.out)
     have Hyes:=Qh (Xn3 (p:=greatE) hlt hlx)
     have Hen:=Qh (fun w hw=>Xet I x _ _ h1 h2 hxw w hw)
     clear hlx h1 h2 hmem hxw Hes
     go_wp2_with fail
     refine (Hen.out _ hwr).mono ?_
     rintro e1 w4 ⟨rfl,hb4⟩
     have HB4:=Qh (HBe.out.thru hb4)
     have hb4':=hb.trans (hb4.mono hb.size)
     clear hb4 HBe c0 c1 c2 c3 c4 c5 x0 x1 x2 x3 x4 x5 x6 Hen
     cases hx0:greatE x
     ·rw [show grE x=0 by rw [grE,hx0];rfl]
      have Hn2:=Qh (Hno.out hx0)
      clear hx0 Hno Hyes
      go_wp2
      go_roundw
      case rel=>exact ⟨k+1,by omega,by go_num,Hn2.out,HB4.out,hb4'⟩
      case measure=>simp [intOf];omega
     ·rw [show grE x=1 by rw [grE,hx0];rfl]
      have Hn:=Qh (show gr40I s=1 by rw [gr40I,Hgr.out,Hyes.out hx0];rfl)
      clear hx0 Hno Hyes
      go_wp2
      go_ret
      exact ⟨Xac Hn.out.symm,hb4'⟩
    ·have Hn:=Qh (show gr40I s=0 by
      have h:=Hes.out
      rw [List.take_of_length_le (by omega)] at h
      rw [gr40I,Hgr.out,h];rfl)
     go_wp2
     go_ret
     exact ⟨Xac Hn.out.symm,hb⟩
  ·have d5:((s.ents.length:Int) != 401)=true:=by simpa using (show (s.ents.length:Int)≠401 by omega)
   have d6:((s.ents.length:Int)==401)=false:=by simpa using (show (s.ents.length:Int)≠401 by omega)
   have Hn:=Qh (show gr40I s=1 by rw [gr40I,hgr,Qt h4,Qt h5];simp)
   clear hgr h5 h4
   go_enter Tryz.func33,Tryz.ntmps33
   go_wp2
   go_ret
   exact ⟨Xac Hn.out.symm,(Qb w.heap.size w).alloc (Qn _) _⟩
 ·have d4:decide ((12:Int)<(s.ents.length:Int))=false:=Qf (by omega)
  have Hgr:=Qh (show gr40 s=s.ents.any greatE by rw [hgr,Qf h4];rfl)
  clear hgr h4
  go_enter Tryz.func33,Tryz.ntmps33
  go_wp2_with fail
  have HB0:=Qh (sesB (W:=w) (s:=s) (ve:= .slice ao s.ents.length co) (t:=35) rfl (Qb _ _))
  have hb0:=(Qb w.heap.size w).alloc (Qn _) (.cells #[.int .i64 s.num,.int .i64 s.date,S s.prev,.slice ao s.ents.length co,S s.stream,S s.sl] 35)
  go_loopw [3] (fun s3 wr=> ∃k:Nat,k≤s.ents.length∧s3= .int .i64 k∧(s.ents.take k).any greatE=false∧SesB wr w.heap.size s (.slice ao s.ents.length co)∧Below w.heap.size w wr) (fun i _=>s.ents.length-(intOf i).toNat)
  case atStart=>exact ⟨0,Nat.zero_le _,rfl,rfl,HB0.out,hb0⟩
  case round=>
   clear HB0 hb0
   obtain ⟨k,hk,rfl,hes,hBe,hb⟩:=hrel
   have HBe:=Qh hBe
   have Hes:=Qh hes
   have hwr:Ok I wr:=hw.below (Qn _) hb
   clear hBe hes
   obtain ⟨c0,c1,c2,c3,c4,c5⟩:=HBe.out
   by_cases hlt:k<s.ents.length
   ·obtain ⟨x,vxa,vxx,b,off,cap',hlx,hvv,⟨x0,x1,x2,x3,x4,x5,x6⟩,h1,h2⟩:=Xbu Hv.out hwr k hlt
    cases hvv
    obtain ⟨xa,xc,rfl,_,_,_⟩:=id h1
    obtain ⟨xx,xd,rfl,_,_,_⟩:=id h2
    have hmem:x∈s.ents:=by rw [←hlx];exact List.getElem_mem hlt
    have hxw:=Hwf.out x hmem
    have Hno:=Qh (any_take_succ (p:=greatE) hlt hlx Hes.out)
    have Hyes:=Qh (Xn3 (p:=greatE) hlt hlx)
    have Hen:=Qh (fun w hw=>Xet I x _ _ h1 h2 hxw w hw)
    clear hlx h1 h2 hmem hxw Hes
    go_wp2_with fail
    refine (Hen.out _ hwr).mono ?_
    rintro e1 w4 ⟨rfl,hb4⟩
    have HB4:=Qh (HBe.out.thru hb4)
    have hb4':=hb.trans (hb4.mono hb.size)
    clear hb4 HBe c0 c1 c2 c3 c4 c5 x0 x1 x2 x3 x4 x5 x6 Hen
    cases hx0:greatE x
    ·rw [show grE x=0 by rw [grE,hx0];rfl]
     have Hn2:=Qh (Hno.out hx0)
     clear hx0 Hno Hyes
     go_wp2
     go_roundw
     case rel=>exact ⟨k+1,by omega,by go_num,Hn2.out,HB4.out,hb4'⟩
     case measure=>simp [intOf];omega
    ·rw [show grE x=1 by rw [grE,hx0];rfl]
     have Hn:=Qh (show gr40I s=1 by rw [gr40I,Hgr.out,Hyes.out hx0];rfl)
     clear hx0 Hno Hyes
     go_wp2
     go_ret
     exact ⟨Xac Hn.out.symm,hb4'⟩
   ·have Hn:=Qh (show gr40I s=0 by
     have h:=Hes.out
     rw [List.take_of_length_le (by omega)] at h
     rw [gr40I,Hgr.out,h];rfl)
    go_wp2
    go_ret
    exact ⟨Xac Hn.out.symm,hb⟩
set_option maxRecDepth 100000 in
set_option maxHeartbeats 4000000 in
theorem Xm1 (I:IH) (v:Value) (l:List Ses) (hv:RdS tSes I v l) (hwf:∀x∈l,x.Wf) (w:World) (hw:Ok I w):
 Calls Tryz.prog 11 #[v] w fun r w'=>r= .returned (.int .i64 (gr41I l))∧Below w.heap.size w w':=by
 have hlen:=hv.len_le
 obtain ⟨ao,cap,rfl,_,_,_⟩:=id hv
 have Hv:=Qh hv
 have Hwf:=Qh hwf
 clear hv hwf
 by_cases h8:8<l.length
 ·have d1:decide ((8:Int)<(l.length:Int))=true:=Qt (by omega)
  have Hn:=Qh (show gr41I l=1 by rw [gr41I,gr41,Qt h8];simp)
  clear h8
  go_enter Tryz.func11,Tryz.ntmps11
  go_wp2
  go_ret
  exact ⟨Xac Hn.out.symm,Qb _ _⟩
 have d1:decide ((8:Int)<(l.length:Int))=false:=Qf (by omega)
 have Hgr:=Qh (show gr41 l=(l.any gr41s || decide (20000<wtL l)) by rw [gr41,Qf h8];rfl)
 go_enter Tryz.func11,Tryz.ntmps11
 go_wp2_with fail
 go_loopw [3,13] (fun s3 s13 wr=> ∃k:Nat,k≤l.length∧s13= .int .i64 k∧s3= .int .i64 (wtL (l.take k))∧(l.take k).any gr41s=false∧Below w.heap.size w wr) (fun _ i _=>l.length-(intOf i).toNat)
 case atStart=>exact ⟨0,Nat.zero_le _,rfl,rfl,rfl,Qb _ _⟩
 case round=>
  obtain ⟨k,hk,rfl,rfl,hr,hb⟩:=hrel
  have Hr:=Qh hr;clear hr
  have hwr:Ok I wr:=hw.below (Qn _) hb
  have hbd:wtL (l.take k)≤1300*k:=by
   have h1:=Xxx (l:=l.take k) fun x hx=>by
    have:=(Xo1 (Hwf.out x (List.mem_of_mem_take hx)) (by have:=List.any_eq_false.1 Hr.out x hx;simpa using this))
    exact ⟨this.stream,this.nents⟩
   rw [List.length_take] at h1
   exact Nat.le_trans h1 (Nat.mul_le_mul_left _ (by omega))
  by_cases hlt:k<l.length
  ·obtain ⟨x,ve,b,off,cap',hlx,hvv,⟨c0,c1,c2,c3,c4,c5⟩,h1⟩:=Xgs Hv.out hwr k hlt
   cases hvv
   have hxw:=Hwf.out x (by rw [←hlx];exact List.getElem_mem hlt)
   have Hno:=Qh (any_take_succ (p:=gr41s) hlt hlx Hr.out)
   have Hyes:=Qh (Xn3 (p:=gr41s) hlt hlx)
   have Hwt:=Qh (Xti hlt hlx)
   have hxl:=h1.len_le
   obtain ⟨oe,ce,rfl,_,_,_⟩:=id h1
   have H40:=Qh (fun w hw=>Xm4 I x _ h1 hxw.ents w hw)
   have Hve:=Qh h1
   have Hxw:=Qh hxw
   clear hlx h1 hxw Hr
   have hba:=hb.alloc hb.size (.cells #[.int .i64 x.num,.int .i64 x.date,S x.prev,.slice oe x.ents.length ce,S x.stream,S x.sl] 35)
   by_cases h30:30<x.ents.length
   ·have d30:decide ((30:Int)<(x.ents.length:Int))=true:=Qt (by omega)
    have Hn:=Qh (show gr41I l=1 by rw [gr41I,Hgr.out,Hyes.out (by rw [gr41s,Qt h30];rfl)];rfl)
    clear h30 Hno Hyes
    go_wp2
    go_ret
    exact ⟨Xac Hn.out.symm,hba⟩
   have d30:decide ((30:Int)<(x.ents.length:Int))=false:=Qf (by omega)
   go_wp2_with fail
   refine (H40.out _ (hwr.alloc _)).mono ?_
   rintro e1 w4 ⟨rfl,hb4⟩
   have HB4:=Qh (sesB (s:=x) rfl hb4)
   have hb4':=hba.trans (hb4.mono hba.size)
   have hok4:Ok I w4:=(hwr.alloc _).below (Qn _) hb4
   clear hb4 H40 c0 c1 c2 c3 c4 c5 hwr
   obtain ⟨c0,c1,c2,c3,c4,c5⟩:=HB4.out
   cases hx0:gr40 x
   case true=>
    rw [show gr40I x=1 by rw [gr40I,hx0];rfl]
    have Hn:=Qh (show gr41I l=1 by rw [gr41I,Hgr.out,Hyes.out (by rw [gr41s,hx0,Bool.or_true])];rfl)
    clear hx0 Hno Hyes
    go_wp2
    go_ret
    exact ⟨Xac Hn.out.symm,hb4'⟩
   rw [show gr40I x=0 by rw [gr40I,hx0];rfl]
   have hs0:gr41s x=false:=by rw [gr41s,hx0,Qf h30];rfl
   have Hn1:=Qh (Hno.out hs0)
   have HG:=Qh (Xnq hx0)
   have hst:=(Xnq hx0).2.1
   have hwx:wtL (l.take (k+1))=wtL (l.take k)+(x.stream.length+10*x.ents.length):=Hwt.out
   have Hwx:=Qh hwx
   generalize wtL (l.take k)=n0 at hbd hwx Hwx ⊢
   clear hx0 hs0 Hno Hyes hwx
   go_wp2_with fail
   go_loopw [39] (fun s39 wq=> ∃j:Nat,j≤x.ents.length∧s39= .int .i64 j∧Below w4.heap.size w4 wq) (fun i _=>x.ents.length-(intOf i).toNat)
   case atStart=>exact ⟨0,Nat.zero_le _,rfl,Qb _ _⟩
   case round=>
    obtain ⟨j,hj,rfl,hbq⟩:=hrel
    have hok:Ok I wr:=hok4.below (Qn _) hbq
    by_cases hjt:j<x.ents.length
    ·obtain ⟨y,vya,vyx,b9,off9,cap9,hly,hvv,⟨x0,x1,x2,x3,x4,x5,x6⟩,h1,h2⟩:=Xbu Hve.out hok j hjt
     cases hvv
     obtain ⟨xa,xc,rfl,_,_,_⟩:=id h1
     obtain ⟨xx,xd,rfl,_,_,_⟩:=id h2
     have hmem:y∈x.ents:=by rw [←hly];exact List.getElem_mem hjt
     have Hen:=Qh (fun w hw=>Xet I y _ _ h1 h2 (Hxw.out.ents y hmem) w hw)
     rw [show grE y=0 by rw [grE,HG.out.2.2.2.2 y hmem];rfl] at Hen
     clear hly h1 h2 hmem
     go_wp2_with fail
     refine (Hen.out _ (hok.alloc _)).mono ?_
     rintro e1 w6 ⟨rfl,hb6⟩
     have hb6':=(hbq.alloc hbq.size (.cells #[.int .i64 y.kind,S y.path,.slice xa y.attrs.length xc,S y.target,.int .i64 y.size,S y.digest,.slice xx y.exts.length xd] 26)).trans (hb6.mono (by have:=hbq.size;simp;omega))
     clear hb6 x0 x1 x2 x3 x4 x5 x6 Hen
     go_wp2
     go_roundw
     case rel=>exact ⟨j+1,by omega,by go_num,hb6'⟩
     case measure=>simp [intOf];omega
    ·go_wp2
     go_roundw
     case rel=>exact ⟨k+1,by omega,by go_num,by rw [Hwx.out];go_num,Hn1.out,hb4'.trans (hbq.mono hb4'.size)⟩
     case measure=>simp [intOf];omega
  ·have hall:l.take k=l:=List.take_of_length_le (by omega)
   rw [hall] at Hr hbd ⊢
   have Hgr2:=Qh (show gr41 l=decide (20000<wtL l) by rw [Hgr.out,Hr.out];rfl)
   clear hall Hr Hgr
   by_cases h2:20000<wtL l
   ·have dI:decide ((20000:Int)<((wtL l:Nat):Int))=true:=Qt (by omega)
    have Hn:=Qh (show gr41I l=1 by rw [gr41I,Hgr2.out,Qt h2];rfl)
    clear h2
    go_wp2
    go_ret
    exact ⟨Xac Hn.out.symm,hb⟩
   ·have dI:decide ((20000:Int)<((wtL l:Nat):Int))=false:=Qf (by omega)
    have Hn:=Qh (show gr41I l=0 by rw [gr41I,Hgr2.out,Qf h2];rfl)
    clear h2
    go_wp2
    go_ret
    exact ⟨Xac Hn.out.symm,hb⟩
end Go.Proofs.YtdodihnehppnmaaGreatDoor
