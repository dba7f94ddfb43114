/- Lemmas for the claim's theorem;conditions: as each says. -/
import Derived.Test.YtdodihnehppnmaaGreatDoorG06
import Derived.RegionTactic
import Derived.Maps.AppendAt
import Derived.Recover
set_option maxHeartbeats 0
set_option maxRecDepth 100000
set_option linter.all false
namespace Go.Proofs.YtdodihnehppnmaaGreatDoor
open Go.RowKit
variable{s:Array Bool}{i:Nat}{a:Act}{w:World}{ops:Array Oper}{v:Value}{L:List (Option Tmp×Value)}{k:Nat}{e:TypeId}{Q:Exit→Act→World→Prop}{P:Program}{id:Nat}{d:Option Tmp}{t:Tmp}{B:Nat}{o:Oper}{a':Act}{M:List (Option Tmp×Value)}{c:Array Value}{ty ts te:TypeId}{bytes:Nat}{vx:Value}{K:Act→World→Prop}{X:Type}{n:Nat}{W:World}
theorem Tp{s:ae}{a:Nat}{c:UInt8}{e:Int}(h:dM s a c= .error e):e=1∨e=4:=by
 unfold dM at h;split at h
 ·injection h with h;exact .inl h.symm
 ·split at h
  ·cases h
  ·injection h with h;exact .inr h.symm
theorem Tq(t:ae)(n:Nat):sV (.ok (t,n))= .tuple #[S t,.int .i64 n,.int .i64 0]:=rfl
theorem Tt(e:Int):sV (.error e)= .tuple #[S [],.int .i64 0,.int .i64 e]:=rfl
theorem X0g(z:Int)(n:Nat):nV (.ok (z,n))= .tuple #[.int .i64 z,.int .i64 n,.int .i64 0]:=rfl
theorem X0f(e:Int):nV (.error e)= .tuple #[.int .i64 0,.int .i64 0,.int .i64 e]:=rfl
theorem Wy(I:IH)(hI:dG I)(s:ae)(hs:s.length≤4294967280)(a:Nat)(ha:a≤9223372036854775807)(w:World)(hw:Ok I w):
 Calls Tryz.prog 50 #[S s,.int .i64 a] w fun e w'=>e= .returned (nV (rdNum s a))∧Below w.heap.size w w':=by
 have Hu:=Qh (show Calls Tryz.prog 102 #[S s,.int .i64 a,.int .u8 32] w fun e w'=>e= .returned (sV (dM s a 32))∧Below w.heap.size w w' from Xmo s hs a ha 32 w);have Hr:=Qh (show rdNum s a=Rb (dM s a 32) fun p=>numOf p.1 p.2 from rfl);cases hu:dM s a 32 with
 |error x=>
  rw[hu]at Hr;rw[hu,Tt]at Hu;have hx:(x !=0)=true:=by rcases Tp hu with rfl|rfl<;>rfl
  clear hu;go_enter Tryz.func50,Tryz.ntmps50
  go_wp2_with fail
  refine Hu.O.mono ?_;rintro e w1 ⟨rfl,au⟩;go_wp2;go_ret3
  rw[Hr.O];exact⟨rfl,au⟩
 |ok p=>
  obtain⟨t,n⟩:=p;rw[hu]at Hr;rw[hu,Tq]at Hu;have Mf:=Pe hu;have hn:=Mf.2.1;have o9:=Mf.2.2.1;clear Mf;have Hd:=Qh (Xij t (by omega));clear hu;cases hd:ii t with
  |false=>
   rw[hd]at Hd;have Hn:=Qh (show rdNum s a= .error 3 by rw[Hr.O,aR,numOf,hd];rfl);clear hd;go_enter Tryz.func50,Tryz.ntmps50
   go_wp2_with fail
   refine Hu.O.mono ?_;rintro e w1 ⟨rfl,au⟩;go_wp2_with fail
   refine(Hd.O _).mono ?_;rintro e w2 ⟨rfl,aD⟩;go_wp2;go_ret3
   rw[Hn.O];exact⟨rfl,au.trans (aD.mono au.size)⟩
  |true=>
   rw[hd]at Hd;have Hn:=Qh (show rdNum s a=if pF t< -2147483648∨2147483647<pF t then .error 2 else .ok (pF t,n) by rw[Hr.O,aR,numOf,hd];rfl);rcases Xqv hd with⟨z,hz,hv⟩|⟨hz,hv⟩
   ·have rq:=Qh (fun w=>Te t (by omega) z hz w);rw[←hv]at Hn;clear hd hz hv;by_cases h1:z< -2147483648
    ·have d1:decide (z< -2147483648)=true:=Qt h1;rw[if_pos (.inl h1)]at Hn;clear h1;go_enter Tryz.func50,Tryz.ntmps50
     go_wp2_with fail
     refine Hu.O.mono ?_;rintro e w1 ⟨rfl,au⟩;go_wp2_with fail
     refine(Hd.O _).mono ?_;rintro e w2 ⟨rfl,aD⟩;go_wp2_with fail
     refine(rq.O _).mono ?_;rintro e w3 ⟨rfl,bU⟩;go_wp2;go_ret3
     rw[Hn.O];exact⟨rfl,(au.trans (aD.mono au.size)).trans (bU.mono (by have:=au.size;have:=aD.size;omega))⟩
    ·have d1:decide (z< -2147483648)=false:=Qf h1;by_cases h2:2147483647<z
     ·have d2:decide (2147483647<z)=true:=Qt h2;rw[if_pos (.inr h2)]at Hn;clear h1 h2;go_enter Tryz.func50,Tryz.ntmps50
      go_wp2_with fail
      refine Hu.O.mono ?_;rintro e w1 ⟨rfl,au⟩;go_wp2_with fail
      refine(Hd.O _).mono ?_;rintro e w2 ⟨rfl,aD⟩;go_wp2_with fail
      refine(rq.O _).mono ?_;rintro e w3 ⟨rfl,bU⟩;go_wp2;go_ret3
      rw[Hn.O];exact⟨rfl,(au.trans (aD.mono au.size)).trans (bU.mono (by have:=au.size;have:=aD.size;omega))⟩
     ·have d2:decide (2147483647<z)=false:=Qf h2;rw[if_neg (by omega)]at Hn;clear h1 h2;go_enter Tryz.func50,Tryz.ntmps50
      go_wp2_with fail
      refine Hu.O.mono ?_;rintro e w1 ⟨rfl,au⟩;go_wp2_with fail
      refine(Hd.O _).mono ?_;rintro e w2 ⟨rfl,aD⟩;go_wp2_with fail
      refine(rq.O _).mono ?_;rintro e w3 ⟨rfl,bU⟩;go_wp2;go_ret3
      rw[Hn.O];exact⟨X00 rfl rfl,(au.trans (aD.mono au.size)).trans (bU.mono (by have:=au.size;have:=aD.size;omega))⟩
   ·have xn:∀n,Lib.atoiAll t≠ .ok n:=fun n h=>by rw[hz]at h;cases h
    have rq:=Qh (fun w hw=>V7 I hI t (by omega) xn w hw);rw[if_pos (by omega)]at Hn;clear hd hz hv xn;go_enter Tryz.func50,Tryz.ntmps50
    go_wp2_with fail
    refine Hu.O.mono ?_;rintro e w1 ⟨rfl,au⟩;go_wp2_with fail
    refine(Hd.O _).mono ?_;rintro e w2 ⟨rfl,aD⟩;have j5:=au.trans (aD.mono au.size);go_wp2_with fail
    refine(rq.O _ (hw.below (Qn _) j5)).mono ?_;rintro e w3 ⟨z,N,rfl,bU⟩;go_wp2;go_ret3
    rw[Hn.O];exact⟨rfl,j5.trans (bU.mono j5.size)⟩
theorem Xxm{t:ae}(h:ii t=true):t≠[]:=fun e=>by subst e;cases h
theorem X0e{t:ae}(h:t≠[]):mR t=(((t.getD 0 0).toNat:Int)==45):=by
 cases t with
 |nil=>exact absurd rfl h
 |cons c r=>
  unfold mR;by_cases hc:c=45
  ·subst hc;rfl
  ·have h1:((c::r).head?==some 45)=false:=by simpa using hc
   have h2:((((c::r).getD 0 0).toNat:Int)==45)=false:=by
    have:(c.toNat:Int)≠45:=fun e=>hc (UInt8.toNat_inj.1 (by have:(45:UInt8).toNat=45:=rfl;omega));simpa using this
   rw[h1,h2]
theorem Wz(I:IH)(hI:dG I)(s:ae)(hs:s.length≤4294967280)(a:Nat)(ha:a≤9223372036854775807)(w:World)(hw:Ok I w):
 Calls Tryz.prog 52 #[S s,.int .i64 a] w fun e w'=>e= .returned (sV (rdStr s a))∧Below w.heap.size w w':=by
 have Hu:=Qh (show Calls Tryz.prog 102 #[S s,.int .i64 a,.int .u8 58] w fun e w'=>e= .returned (sV (dM s a 58))∧Below w.heap.size w w' from Xmo s hs a ha 58 w);have Hr:=Qh (show rdStr s a=Rb (dM s a 58) fun p=>strOf s p.1 p.2 from rfl);cases hu:dM s a 58 with
 |error x=>
  rw[hu]at Hr;rw[hu,Tt]at Hu;have hx:(x !=0)=true:=by rcases Tp hu with rfl|rfl<;>rfl
  clear hu;go_enter Tryz.func52,Tryz.ntmps52
  go_wp2_with fail
  refine Hu.O.mono ?_;rintro e w1 ⟨rfl,au⟩;go_wp2;go_ret3
  rw[Hr.O];exact⟨rfl,au⟩
 |ok p=>
  obtain⟨t,n⟩:=p;rw[hu]at Hr;rw[hu,Tq]at Hu;have Mf:=Pe hu;have hn:=Mf.2.1;have o9:=Mf.2.2.1;clear Mf;have Hd:=Qh (Xij t (by omega));clear hu;cases hd:ii t with
  |false=>
   rw[hd]at Hd;have Hn:=Qh (show rdStr s a= .error 3 by rw[Hr.O,aR,strOf,Ti,hd];rfl);clear hd;go_enter Tryz.func52,Tryz.ntmps52
   go_wp2_with fail
   refine Hu.O.mono ?_;rintro e w1 ⟨rfl,au⟩;go_wp2_with fail
   refine(Hd.O _).mono ?_;rintro e w2 ⟨rfl,aD⟩;have j5:=au.trans (aD.mono au.size);go_wp2;go_ret3
   rw[Hn.O];exact⟨rfl,j5⟩
  |true=>
   rw[hd]at Hd;have cK:=Xxm hd;have hlen:=List.length_pos_iff.2 cK;have Np:=X0e cK;have hx0:=gG (P:=Tryz.prog) Tryz.underlying9 t 0 0 rfl hlen;cases hneg:mR t with
   |true=>
    rw[hneg]at Np;have Hn:=Qh (show rdStr s a= .error 3 by rw[Hr.O,aR,strOf,Ti,hd,hneg];rfl);have k1:=Np.symm;clear hd cK Np hneg;generalize(t.getD 0 0).toNat=c at hx0 k1;go_enter Tryz.func52,Tryz.ntmps52
    go_wp2_with fail
    refine Hu.O.mono ?_;rintro e w1 ⟨rfl,au⟩;go_wp2_with fail
    refine(Hd.O _).mono ?_;rintro e w2 ⟨rfl,aD⟩;have j5:=au.trans (aD.mono au.size);go_wp2;go_ret3
    rw[Hn.O];exact⟨rfl,j5⟩
   |false=>
    rw[hneg]at Np;have zG:jg t=true:=by rw[Ti,hd,hneg];rfl
    have Hn:=Qh (show rdStr s a=if s.length-n≤dS 0 t then .error 4 else if s.getD (n+dS 0 t) 0≠44 then .error 3 else .ok ((s.drop n).take (dS 0 t),n+dS 0 t+1) by rw[Hr.O,aR,strOf,zG];rfl);have pV:=Wm zG;have EO:=Xqv hd;have k1:=Np.symm;rw[pV]at EO;clear hd cK Np hneg zG pV;generalize(t.getD 0 0).toNat=c at hx0 k1;rcases EO with⟨z,hz,hv⟩|⟨hz,hv⟩
    ·have rq:=Qh (fun w=>Te t (by omega) z hz w);generalize dS 0 t=m at Hn hv;subst hv;clear hz;have i1:IntKind.i64.wrap ((s.length:Int)-(n:Int))=(s.length:Int)-n:=IntWalk.i64_in _ (by omega);by_cases h1:s.length-n≤m
     ·rw[if_pos h1]at Hn;have d1:decide ((s.length:Int)-(n:Int)≤(m:Int))=true:=Qt (by omega);clear h1;go_enter Tryz.func52,Tryz.ntmps52
      go_wp2_with fail
      refine Hu.O.mono ?_;rintro e w1 ⟨rfl,au⟩;go_wp2_with fail
      refine(Hd.O _).mono ?_;rintro e w2 ⟨rfl,aD⟩;have j5:=au.trans (aD.mono au.size);go_wp2_with fail
      refine(rq.O _).mono ?_;rintro e w3 ⟨rfl,bU⟩;go_wp2;go_ret3
      rw[Hn.O];exact⟨rfl,j5.trans (bU.mono j5.size)⟩
     ·rw[if_neg h1]at Hn;have d1:decide ((s.length:Int)-(n:Int)≤(m:Int))=false:=Qf (by omega);have hlt:n+m<s.length:=by omega
      have i2:IntKind.i64.wrap ((n:Int)+(m:Int))=(n:Int)+m:=IntWalk.i64_in _ (by omega);have fP:=gG (P:=Tryz.prog) Tryz.underlying9 s ((n:Int)+(m:Int)) (n+m) (by omega) hlt;by_cases h2:s.getD (n+m) 0=44
      ·rw[if_neg (by simpa using h2)]at Hn;have k2:(((s.getD (n+m) 0).toNat:Int) !=44)=false:=by rw[h2];rfl
       clear h2 h1;generalize(s.getD (n+m) 0).toNat=c2 at fP k2;go_enter Tryz.func52,Tryz.ntmps52
       go_wp2_with fail
       refine Hu.O.mono ?_;rintro e w1 ⟨rfl,au⟩;go_wp2_with fail
       refine(Hd.O _).mono ?_;rintro e w2 ⟨rfl,aD⟩;have j5:=au.trans (aD.mono au.size);go_wp2_with fail
       refine(rq.O _).mono ?_;rintro e w3 ⟨rfl,bU⟩;go_wp2;go_ret3
       rw[Hn.O];exact⟨Xz9 (by rw[show n+m-n=m by omega]) (by omega),j5.trans (bU.mono j5.size)⟩
      ·rw[if_pos h2]at Hn;have k2:(((s.getD (n+m) 0).toNat:Int) !=44)=true:=by
        have:((s.getD (n+m) 0).toNat:Int)≠44:=fun e=>h2 (UInt8.toNat_inj.1 (by have:(44:UInt8).toNat=44:=rfl;omega));simpa using this
       clear h2 h1;generalize(s.getD (n+m) 0).toNat=c2 at fP k2;go_enter Tryz.func52,Tryz.ntmps52
       go_wp2_with fail
       refine Hu.O.mono ?_;rintro e w1 ⟨rfl,au⟩;go_wp2_with fail
       refine(Hd.O _).mono ?_;rintro e w2 ⟨rfl,aD⟩;have j5:=au.trans (aD.mono au.size);go_wp2_with fail
       refine(rq.O _).mono ?_;rintro e w3 ⟨rfl,bU⟩;go_wp2;go_ret3
       rw[Hn.O];exact⟨rfl,j5.trans (bU.mono j5.size)⟩
    ·have xn:∀n,Lib.atoiAll t≠ .ok n:=fun n h=>by rw[hz]at h;cases h
     have rq:=Qh (fun w hw=>V7 I hI t (by omega) xn w hw);rw[if_pos (by omega)]at Hn;clear hz hv xn;go_enter Tryz.func52,Tryz.ntmps52
     go_wp2_with fail
     refine Hu.O.mono ?_;rintro e w1 ⟨rfl,au⟩;go_wp2_with fail
     refine(Hd.O _).mono ?_;rintro e w2 ⟨rfl,aD⟩;have j5:=au.trans (aD.mono au.size);go_wp2_with fail
     refine(rq.O _ (hw.below (Qn _) j5)).mono ?_;rintro e w3 ⟨z,N,rfl,bU⟩;go_wp2;go_ret3
     rw[Hn.O];exact⟨rfl,j5.trans (bU.mono j5.size)⟩
section
variable {P:Program} {ops:Array Oper} {md:Region.Mode} {Q:Exit→Act→World→Prop}
def uf(s:Array Bool):Nat:=s.toList.countP (!·)
theorem Xki:∀(l:List Bool) (i:Nat),l[i]?=some false→(l.set i true).countP (!·)+1=l.countP (!·)
 | [],_,h=>absurd h (by simp)
 |b::l,0,h=>by
  simp at h;subst h;simp
 |b::l,i+1,h=>by
  have:=Xki l i (by simpa using h);simp only[List.set_cons_succ,List.countP_cons];omega
theorem Xj8(h:s.getD i true=false):s.toList[i]?=some false:=by
 rw[Array.getElem?_toList];rw[Array.getD_eq_getD_getElem?]at h;cases hs:s[i]? with
 |none=>rw[hs]at h;simp at h
 |some b=>rw[hs]at h;simpa using h
theorem Xmt(h:s.getD i true=false):uf (s.setIfInBounds i true)+1=uf s:=by
 unfold uf;rw[Array.toList_setIfInBounds];exact Xki _ _ (Xj8 h)
theorem Xto(h:s.getD i true=false):0<uf s:=by have:=Xmt h;omega
theorem Xr6{J:Array Bool→Act→World→Prop}(uI:∀s a w i,J s a w→i∈Region.ready md ops s→wpOp P ops Q i (fun a' w'=>J (s.setIfInBounds i true) a' w') a w)
 (lF:∀s a w,J s a w→Region.ready md ops s=[]→Q .normal a w):∀(f:Nat) (s:Array Bool) (a:Act) (w:World),uf s≤f→J s a w→wpAny P md ops Q f s a w:=by
 intro f;induction f with
 |zero=>
  intro s a w hf hJ;have hr:Region.ready md ops s=[]:=by
   cases h:Region.ready md ops s with
   |nil=>rfl
   |cons j l=>
    have:=Xto (mem_ready.1 (show j∈Region.ready md ops s by rw[h];exact List.mem_cons_self ..)).1;omega
  exact⟨hr,lF s a w hJ hr⟩
 |succ f ih=>
  intro s a w hf hJ;refine⟨lF s a w hJ,fun i hi=>wpOp_mono (fun a' w' h=>ih _ _ _ ?_ h) (uI s a w i hJ hi)⟩;have:=Xmt (mem_ready.1 hi).1;omega
theorem Xor(n:Nat):uf (Array.replicate n false)=n:=by
 simp[uf,List.countP_replicate]
theorem Xkl(J:Array Bool→Act→World→Prop)(hm:P.follows .mixedOrders=true)(h0:J (Array.replicate ops.size false) a {w with drawn:=w.drawn+1})
 (uI:∀s a w i,J s a w→i∈Region.ready .any ops s→wpOp P ops Q i (fun a' w'=>J (s.setIfInBounds i true) a' w') a w)
 (lF:∀s a w,J s a w→Region.ready .any ops s=[]→Q .normal a w):(Code.region id ops true).wp P Q a w:=
 wp_region_any hm (Xr6 uI lF _ _ _ _ (by rw[Xor];exact Qn _) h0)
def cZ:List (Option Tmp×Value)→Nat→Array Bool→Act→Act
 | [],_,_,a=>a
 |(d,v)::l,k,s,a=>cZ l (k+1) s (if s.getD k false then a.put d v else a)
theorem Xsz(a:Act){e:Option Tmp}(u v:Value)(h:∀t,d=some t→e≠some t):(a.put d u).put e v=(a.put e v).put d u:=by
 cases d with
 |none=>rfl
 |some d=>
  cases e with
  |none=>rfl
  |some e=>
   have cK:d≠e:=fun h'=>h d rfl (by rw[h']);simp only[Act.put];rw[Array.setIfInBounds_comm _ _ cK]
def dL(l:List (Option Tmp×Value)):Prop:=l.Pairwise fun p q=> ∀t,p.1=some t→q.1≠some t
theorem WB:∀(l:List (Option Tmp×Value)) (k:Nat) (s:Array Bool) (a:Act) (d:Option Tmp) (v:Value),(∀p∈l,∀t,d=some t→p.1≠some t)→cZ l k s (a.put d v)=(cZ l k s a).put d v
 | [],_,_,_,_,_,_=>rfl
 |(e,u)::l,k,s,a,d,v,h=>by
  rw[cZ,cZ];split
  ·rw[Xsz a v u (h (e,u) (List.mem_cons_self ..)),WB l _ _ _ _ _ fun p hp=>h p (List.mem_cons_of_mem _ hp)]
  ·rw[WB l _ _ _ _ _ fun p hp=>h p (List.mem_cons_of_mem _ hp)]
theorem Xka:∀(l:List (Option Tmp×Value)) (k:Nat) (s:Array Bool) (a:Act) (i:Nat),i<k→cZ l k (s.setIfInBounds i true) a=cZ l k s a
 | [],_,_,_,_,_=>rfl
 |(e,u)::l,k,s,a,i,h=>by
  rw[cZ,cZ,getD_set_ne false (by omega),Xka l (k+1) s _ i (by omega)]
theorem Xqg:∀(l:List (Option Tmp×Value)) (k i:Nat) (s:Array Bool) (a:Act) (d:Option Tmp) (v:Value),dL l→l[i]?=some (d,v)→s.getD (k+i) true=false→(cZ l k s a).put d v=cZ l k (s.setIfInBounds (k+i) true) a
 | [],_,_,_,_,_,_,_,h,_=>absurd h (by simp)
 |(e,u)::l,k,0,s,a,d,v,hp,h,hs=>by
  simp at h;obtain⟨rfl,rfl⟩:=h;have hf:s.getD k false=false:=by
   rw[Nat.add_zero]at hs;rw[Array.getD_eq_getD_getElem?]at hs ⊢;cases hk:s[k]? with
   |none=>rw[hk]at hs;simp at hs
   |some b=>rw[hk]at hs;simpa using hs
  have ht:(s.setIfInBounds k true).getD k false=true:=by
   have hlt:k<s.size:=by
    rw[Nat.add_zero]at hs;have:=Xj8 hs;have:=(List.getElem?_eq_some_iff.1 this).1;simpa using this
   simp[Array.getD_eq_getD_getElem?,hlt]
  simp only[Nat.add_zero];rw[cZ,cZ,ht,hf];simp only[Bool.false_eq_true,if_false,if_true];rw[Xka l (k+1) s _ k (by omega),WB];exact fun p hm t=>(List.pairwise_cons.1 hp).1 p hm t
 |(e,u)::l,k,i+1,s,a,d,v,hp,h,hs=>by
  rw[cZ,cZ,getD_set_ne false (by omega),show k+(i+1)=k+1+i by omega];exact Xqg l (k+1) i s _ d v (List.pairwise_cons.1 hp).2 (by simpa using h) (by rw[←hs];congr 1;omega)
theorem Xie(a:Act)(v:Value)(h:d≠some t):(a.put d v).eval (.tmp t)=a.eval (.tmp t):=
 Act.eval_put fun d' hd e=>h (by rw[hd];injection e with e;rw[e])
theorem Xpw(a:Act)(d:Option Tmp)(v:Value):(a.put d v).tmps.size=a.tmps.size:=by cases d<;>simp[Act.put]
theorem Tu:∀(l:List (Option Tmp×Value)) (k:Nat) (s:Array Bool) (a:Act) (t:Tmp),(∀p∈l,p.1≠some t)→(cZ l k s a).eval (.tmp t)=a.eval (.tmp t)
 | [],_,_,_,_,_=>rfl
 |(e,u)::l,k,s,a,t,h=>by
  rw[cZ,Tu l _ _ _ _ fun p hp=>h p (List.mem_cons_of_mem _ hp)];split
  ·exact Xie a u (h (e,u) (List.mem_cons_self ..))
  ·rfl
theorem Xm9:∀(l:List (Option Tmp×Value)) (k i:Nat) (s:Array Bool) (a:Act) (t:Tmp) (v:Value),dL l→l[i]?=some (some t,v)→s.getD (k+i) false=true→t<a.tmps.size→(cZ l k s a).eval (.tmp t)=v
 | [],_,_,_,_,_,_,_,h,_,_=>absurd h (by simp)
 |(e,u)::l,k,0,s,a,t,v,hp,h,hs,ht=>by
  simp at h;obtain⟨rfl,rfl⟩:=h;rw[Nat.add_zero]at hs;rw[cZ,hs,if_pos rfl,Tu l _ _ _ _ fun p hm e=>(List.pairwise_cons.1 hp).1 p hm t rfl e];simp[Act.put,Act.eval,Array.getD_eq_getD_getElem?,ht]
 |(e,u)::l,k,i+1,s,a,t,v,hp,h,hs,ht=>by
  rw[cZ];refine Xm9 l (k+1) i s _ t v (List.pairwise_cons.1 hp).2 (by simpa using h) (by rw[←hs];congr 1;omega) ?_;split
  ·rw[Xpw];exact ht
  ·exact ht
theorem Tv:∀(l m:List (Option Tmp×Value)) (k:Nat) (s:Array Bool) (a:Act),l.length=m.length→(∀i,s.getD (k+i) false=true→l[i]?=m[i]?)→cZ l k s a=cZ m k s a
 | [],[],_,_,_,_,_=>rfl
 | [],_::_,_,_,_,h,_=>absurd h (by simp)
 |_::_,[],_,_,_,h,_=>absurd h (by simp)
 |(e,u)::l,(f,v)::m,k,s,a,hl,h=>by
  rw[cZ,cZ];have gY:∀a',cZ l (k+1) s a'=cZ m (k+1) s a':=fun a'=>Tv l m (k+1) s a' (by simpa using hl) fun i hi=>by
   have:=h (i+1) (by rw[←hi];congr 1;omega);simpa using this
  cases hk:s.getD k false
  ·simp only[Bool.false_eq_true,if_false];exact gY a
  ·have:=h 0 hk;simp at this;obtain⟨rfl,rfl⟩:=this;simp only[if_true];exact gY _
theorem Xud(l:List (Option Tmp×Value))(a:Act):∀(k n:Nat),cZ l k (Array.replicate n false) a=a:=by
 induction l generalizing a with
 |nil=>intro k n;rfl
 |cons p l ih=>
  intro k n;obtain⟨d,v⟩:=p;have:(Array.replicate n false).getD k false=false:=by
   rw[Array.getD_eq_getD_getElem?];rw[Array.getElem?_replicate];split<;>rfl
  rw[cZ,this];simp only[Bool.false_eq_true,if_false];exact ih a _ _
end
section
variable {P:Program} {ops:Array Oper} {Q:Exit→Act→World→Prop}
def acP(ops:Array Oper):Bool:=(List.range ops.size).all fun i=>((ops[i]?).map fun o=>o.after.all fun e=>decide (e.on<i)).getD true
def iw:List (Option Tmp×Value)→Act→Act
 | [],a=>a
 |(d,v)::l,a=>iw l (a.put d v)
theorem CL:∀(l:List (Option Tmp×Value)) (k:Nat) (s:Array Bool) (a:Act),(∀i,i<l.length→s.getD (k+i) false=true)→cZ l k s a=iw l a
 | [],_,_,_,_=>rfl
 |(d,v)::l,k,s,a,h=>by
  have h0:=h 0 (by simp);rw[Nat.add_zero]at h0;rw[cZ,h0,if_pos rfl,iw];exact CL l (k+1) s _ fun i hi=>by
   have:=h (i+1) (by simp;omega);rw[←this];congr 1;omega
end
section
variable {P:Program} {α:Type} {T:Ty α} {I:IH}
theorem Xh3{t:TypeId}{i:TypeInfo}(ht:P.underlying t=some (.slice e))(hi:P.info? e=some i)(w:World)(b ao:Option Addr)(n cap c:Nat)(hn:n≤cap):
 (Builtin.append_ #[t,t] ty #[.slice b n cap,.slice ao 0 c]).run P w= .ok (.slice b n cap) w:=by
 cases b<;>cases ao<;>simp[Builtin.append_,run_underlying ht,sizeOf,typeInfo,hi,Builtin.lenOf,Builtin.firstCells,loadCells,loadCellsFrom,hn,storeCells]
def ru(T:Ty α)(I:IH)(w:World)(v:Value)(l:List α):Prop:=
 ∃ao c cs,v= .slice ao l.length c∧bR T I cs l∧(0<l.length→ ∃ad,ao=some ad∧ ∀j u,cs[j]?=some u→w.cell? (ad.add j)=some u)
theorem ru.Dy{l:List α}(h:bf T I v l)(hw:Ok I w)(hs:0<T.size):ru T I w v l:=by
 obtain⟨ao,cap,xs,hv,_,_,hl,hc⟩:=h.cells hw hs;refine⟨ao,cap,xs,hv,hl,fun h0=> ?_⟩;obtain⟨b,off,arr,rfl,_,_,iY⟩:=hc h0;exact⟨_,rfl,fun j u hu=>by rw[Addr.add_lit];exact iY j u hu⟩
theorem ru.wP{x:α}{cs:List Value}{g:Nat}(hx:T.rd I cs x)(hc:∀j u,cs[j]?=some u→w.cell? ⟨g,j,none⟩=some u):ru T I w (.slice (some ⟨g,0,none⟩) 1 1) [x]:=
 ⟨_,_,cs,rfl,bR.one hx,fun _=>⟨_,rfl,fun j u hu=>by rw[Addr.add_lit,Nat.zero_add];exact hc j u hu⟩⟩
theorem Xl3(hE:fq P ts te T bytes){l:List α}(bJ:aM T te I w B v l){ys:List α}(hy:ru T I w vx ys)
 (iW:(l.length+ys.length)*bytes≤140737488355328) (hl:l.length+ys.length≤9223372036854775807) (hB:B≤w.heap.size):
 ∃v' w',(Builtin.append_ #[ts,ts] ty #[v,vx]).run P w= .ok v' w'∧aM T te I w' B v' (l++ys)∧w.grownBy w' v.ownBlock:=by
 obtain⟨i,z,h1,h2,h3,h4,h5,h6,h7⟩:=hE;obtain⟨ao,c,cs,rfl,k1,k2⟩:=hy;obtain⟨xs,k3,k4⟩:=bJ;rcases Nat.eq_zero_or_pos ys.length with h0|h0
 ·have:ys=[]:=List.eq_nil_of_length_eq_zero h0;subst this;have hv:∃b n cap,v= .slice b n cap∧n≤cap:=by
   rcases k3.2 with⟨h8,_⟩|⟨g,cap,cur,h8,_,_,h9,_⟩
   ·exact⟨_,_,_,h8,Qn _⟩
   ·exact⟨_,_,_,h8,h9⟩
  obtain⟨b,n,cap,rfl,hn⟩:=hv;refine⟨_,w,Xh3 h1 h2 w b ao n cap c hn,⟨xs,by rw[List.append_nil];exact k3,by rw[List.append_nil];exact k4⟩,⟨rfl,rfl,rfl,Qn _,fun _ _ _=>rfl⟩⟩
 ·obtain⟨ad,rfl,iY⟩:=k2 h0;obtain⟨v',w',hr,r1,r2,_⟩:=run_append_own (P:=P) w B ts ty te i z T.size bytes h1 h2 h3 h4 h5 h6 h7 v l.length xs k3 ad ys.length c cs k1.1 iY k1.oneCell (by unfold maxLen;omega) iW hB;exact⟨v',w',hr,⟨xs++cs,by rw[List.length_append];exact r1,k4.append k1⟩,r2⟩
theorem Dz(hE:fq P ts te T bytes){E:Prop}(Cj:o.guard=none)(s x:Operand)
 (ho:o.op= .call {callee:= .builtin .append,args:=#[s,x],argTypes:=#[ts,ts]})   {l:List α} (hs:a.eval s=v) (bJ:aM T te I w B v l)  {ys:List α} (hx:a.eval x=vx) (hy:ru T I w vx ys)
 (iW:(l.length+ys.length)*bytes≤140737488355328) (hl:l.length+ys.length≤9223372036854775807) (hB:B≤w.heap.size)
 (h:∀v' w',aM T te I w' B v' (l++ys)→w.grownBy w' v.ownBlock→K (a.put o.dst v') w'):
 if Region.wanted o (yielded ops a.tmps)=true then Oper.wp P o a w K Q else E:=by
 obtain⟨v',w',hr,h1,h2⟩:=Xl3 (ty:=o.type) hE bJ hy iW hl hB;rw[if_pos (by simp[Region.wanted,Cj])];unfold Oper.wp execOp;simp only[ho,resolve,invoke,builtin,Sem.run_bind,Sem.run_pure,Result.andThen_ok,List.map_toArray,List.map_cons,List.map_nil,hs,hx,hr];exact h v' w' h1 h2
end
theorem jK(hp:dL L)(ha:a'=cZ L 0 s a)(hi:L[i]?=some (d,v))(bO:s.getD i true=false):a'.put d v=cZ L 0 (s.setIfInBounds i true) a:=by
 have h:=Xqg L 0 i s a d v hp hi (by rw[Nat.zero_add];exact bO);rw[ha,h,Nat.zero_add]
theorem nO(hp:dL L)(ha:a'=cZ L 0 s a)(hi:L[i]?=some (some t,v))(hs:s.getD i false=true)(ht:t<a.tmps.size):a'.tmps[t]?.getD undef=v:=by
 have h:=Xm9 L 0 i s a t v hp hi (by rw[Nat.zero_add];exact hs) ht;rw[←ha]at h;simpa[Act.eval]using h
theorem qR(ha:a'=cZ L 0 s a)(h:∀p∈L,p.1≠some t):a'.tmps[t]?.getD undef=a.tmps[t]?.getD undef:=by
 have h:=Tu L 0 s a t h;rw[←ha]at h;simpa[Act.eval]using h
theorem CO(h:s.getD i true=false):s.getD i false=false:=by
 rw[Array.getD_eq_getD_getElem?]at h ⊢;cases hs:s[i]? with
 |none=>rfl
 |some b=>rw[hs]at h;simpa using h
theorem CP(h:s.getD i true=false):i<s.size:=by
 rcases Nat.lt_or_ge i s.size with h'|h'
 ·exact h'
 ·rw[Array.getD_eq_getD_getElem?,Array.getElem?_eq_none h']at h;simp at h
theorem AR(n i:Nat):(Array.replicate n false).getD i false=false:=by
 rw[Array.getD_eq_getD_getElem?,Array.getElem?_replicate];split<;>rfl
theorem IQ(h:i<s.size):(s.setIfInBounds i true).getD i false=true:=by
 rw[Array.getD_eq_getD_getElem?,Array.getElem?_setIfInBounds_self_of_lt h];rfl
theorem Xyz(i:Nat)(hl:L.length=M.length)(h:∀j,j≠i→L[j]?=M[j]?)(bO:s.getD i true=false):cZ L 0 s a=cZ M 0 s a:=
 Tv _ _ _ _ _ hl fun j hj=>by
  rw[Nat.zero_add]at hj;exact h j fun e=>by rw[e,CO bO]at hj;cases hj
def zH(ops:Array Oper):Bool:=(List.range ops.size).all fun i=>((ops[i]?).map fun o=>o.after.all fun e=> !(Region.binds .any e) || decide (e.on<i)).getD true
theorem Xz7(hb:zH ops=true)(hr:Region.ready .any ops s=[])(eU:s.size=ops.size):∀i,i<ops.size→s.getD i false=true:=by
 intro i;induction i using Nat.strongRecOn with
 |_ i ih=>
  intro hi;cases hs:s.getD i false with
  |true=>rfl
  |false=>
   exfalso;have hs':s.getD i true=false:=by
    rw[Array.getD_eq_getD_getElem?]at hs ⊢;have hlt:i<s.size:=by omega
    rw[Array.getElem?_eq_getElem hlt]at hs ⊢;simpa using hs
   have:i∈Region.ready .any ops s:=mem_ready.2 ⟨hs',ops[i],Array.getElem?_eq_getElem hi,fun e he tJ=> ?_⟩
   ·rw[hr]at this;exact absurd this (by simp)
   ·have h:=List.all_eq_true.1 hb i (List.mem_range.2 hi);rw[Array.getElem?_eq_getElem hi]at h;simp only[Option.map_some,Option.getD_some]at h;obtain⟨j,hj,rfl⟩:=Array.getElem_of_mem he;have h2:=Array.all_eq_true.1 h j hj;rw[tJ]at h2;have h3:ops[i].after[j].on<i:=by simpa using h2
    exact ih _ h3 (by omega)
theorem Xht(L:X→List (Option Tmp×Value))(C:X→Array Bool→World→Prop)(hm:P.follows .mixedOrders=true)(hb:zH ops=true)(h0:∃x,C x (Array.replicate ops.size false) {w with drawn:=w.drawn+1})
 (uI:∀x s a' w' i,s.size=ops.size→a'=cZ (L x) 0 s a→C x s w'→i∈Region.ready .any ops s→wpOp P ops Q i (fun a'' w''=> ∃y,a''=cZ (L y) 0 (s.setIfInBounds i true) a∧C y (s.setIfInBounds i true) w'') a' w')
 (lF:∀x s a' w',(∀i,i<ops.size→s.getD i false=true)→a'=cZ (L x) 0 s a→C x s w'→Q .normal a' w'):(Code.region id ops true).wp P Q a w:=by
 refine Xkl (fun s a' w'=>s.size=ops.size∧ ∃x,a'=cZ (L x) 0 s a∧C x s w') hm ?_ ?_ ?_
 ·obtain⟨x,hx⟩:=h0;exact⟨by simp,x,(Xud _ _ _ _).symm,hx⟩
 ·rintro s a' w' i ⟨eU,x,ha,hx⟩ hi;exact wpOp_mono (fun a'' w'' ⟨y,h1,h2⟩=>⟨by simpa using eU,y,h1,h2⟩) (uI x s a' w' i eU ha hx hi)
 ·rintro s a' w' ⟨eU,x,ha,hx⟩ hr;exact lF x s a' w' (Xz7 hb hr eU) ha hx
structure A2X where
 e:Nat
 b:Nat
 v1:Value
 v2:Value
structure A2C {α:Type} (T:Ty α) (E:TypeId) (I:IH) (w3:World) (l:List α) (y:α) (row:Array Value) (i0 i2 i4 i5:Nat) (x:A2X) (s:Array Bool) (w:World):Prop where
 fA:Below w3.heap.size w3 w
 p0:s.getD i0 false=true→s.getD i2 false=false→aM T E I w w3.heap.size (.slice (some ⟨x.e,0,none⟩) 0 0) []
 p2:s.getD i2 false=true→s.getD i5 false=false→aM T E I w w3.heap.size x.v1 l
 p4:s.getD i4 false=true→s.getD i5 false=false→w.heap[x.b]?=some (.cells row E (0,0))
 p5:s.getD i5 false=true→aM T E I w w3.heap.size x.v2 (l++[y])
 n0:s.getD i0 false=true→s.getD i2 false=false→s.getD i4 false=true→x.e≠x.b
 n2:s.getD i2 false=true→s.getD i4 false=true→s.getD i5 false=false→x.v1.ownBlock≠some x.b
 o2:s.getD i2 false=true→s.getD i0 false=true
 o5:s.getD i5 false=true→s.getD i2 false=true∧s.getD i4 false=true
section
variable {α:Type} {T:Ty α} {E:TypeId} {I:IH} {w3 w w':World} {l:List α} {y:α} {row:Array Value} {i0 i2 i4 i5:Nat} {x:A2X} {s:Array Bool}
end
structure zb (W:World) (last j1 j2:Nat) (cs1 cs2:List (Nat×Value)) (fin:World→Prop) (x:Nat×Nat) (s:Array Bool) (w:World):Prop where
 fA:s.getD last false=false→Below W.heap.size W w
 f1:s.getD j1 false=true→s.getD last false=false→ ∀p∈cs1,w.cell? ⟨x.1,p.1,none⟩=some p.2
 f2:s.getD j2 false=true→s.getD last false=false→ ∀p∈cs2,w.cell? ⟨x.2,p.1,none⟩=some p.2
 fin:s.getD last false=true→fin w
section
variable {W w w':World} {last j1 j2:Nat} {cs1 cs2:List (Nat×Value)} {fin:World→Prop} {x:Nat×Nat} {s:Array Bool}
theorem zb.start(n:Nat)(x:Nat×Nat):zb W last j1 j2 cs1 cs2 fin x (Array.replicate n false) {W with drawn:=W.drawn+1}:=
 ⟨fun _=>(Qb _ _).drew,fun h=>(by rw[AR]at h;cases h),fun h=>(by rw[AR]at h;cases h),fun h=>(by rw[AR]at h;cases h)⟩
theorem zb.step(h:zb W last j1 j2 cs1 cs2 fin x s w)(hl:s.getD last false=false)(hb:Below w.heap.size w w')(h1:i≠j1)(h2:i≠j2)(h3:i≠last):zb W last j1 j2 cs1 cs2 fin x (s.setIfInBounds i true) w':=by
 refine⟨fun _=>(h.fA hl).trans (hb.mono (h.fA hl).size),?_,?_,?_⟩
 ·rw[getD_set_ne false h1];exact fun a _ p hp=>dQ hb (h.f1 a hl p hp)
 ·rw[getD_set_ne false h2];exact fun a _ p hp=>dQ hb (h.f2 a hl p hp)
 ·rw[getD_set_ne false h3,hl];intro q;cases q
theorem zb.at1(h:zb W last j1 j2 cs1 cs2 fin x s w)(hl:s.getD last false=false)(hb:Below w.heap.size w w')(h2:j1≠j2)(h3:j1≠last)(hc:∀p∈cs1,w'.cell? ⟨n,p.1,none⟩=some p.2):zb W last j1 j2 cs1 cs2 fin (n,x.2) (s.setIfInBounds j1 true) w':=by
 refine⟨fun _=>(h.fA hl).trans (hb.mono (h.fA hl).size),fun _ _=>hc,?_,?_⟩
 ·rw[getD_set_ne false h2];exact fun a _ p hp=>dQ hb (h.f2 a hl p hp)
 ·rw[getD_set_ne false h3,hl];intro q;cases q
theorem zb.at2(h:zb W last j1 j2 cs1 cs2 fin x s w)(hl:s.getD last false=false)(hb:Below w.heap.size w w')(h1:j2≠j1)(h3:j2≠last)(hc:∀p∈cs2,w'.cell? ⟨n,p.1,none⟩=some p.2):zb W last j1 j2 cs1 cs2 fin (x.1,n) (s.setIfInBounds j2 true) w':=by
 refine⟨fun _=>(h.fA hl).trans (hb.mono (h.fA hl).size),?_,fun _ _=>hc,?_⟩
 ·rw[getD_set_ne false h1];exact fun a _ p hp=>dQ hb (h.f1 a hl p hp)
 ·rw[getD_set_ne false h3,hl];intro q;cases q
theorem zb.end'(bO:s.getD last true=false)(hf:fin w'):zb W last j1 j2 cs1 cs2 fin x (s.setIfInBounds last true) w':=by
 have e:=IQ (CP bO);exact⟨fun q=>(by rw[e]at q;cases q),fun _ q=>(by rw[e]at q;cases q),fun _ q=>(by rw[e]at q;cases q),fun _=>hf⟩
end
def Gs(ops:Array Oper)(s:Array Bool):Prop:=∀i o,ops[i]?=some o→s.getD i false=true→ ∀e∈o.after,Region.binds .any e=true→s.getD e.on false=true
def yo(ops:Array Oper):List Nat→Bool
 |i::j::r=>(match ops[i]? with|some o=>o.after.any fun e=>Region.binds .any e&&e.on==j|none=>false)&&yo ops (j::r)
 |_=>true
theorem Pj(h:Gs ops s):∀(p:List Nat) (k i:Nat),yo ops (k::p)=true→(k::p).getLast?=some i→s.getD k false=true→s.getD i false=true
 | [],k,i,_,hl,hk=>by simp at hl;exact hl▸hk
 |j::r,k,i,hp,hl,hk=>by
  unfold yo at hp;rw[Bool.and_eq_true]at hp;obtain⟨h1,h2⟩:=hp;cases ho:ops[k]? with
  |none=>rw[ho]at h1;simp at h1
  |some o=>
   rw[ho]at h1;simp only[Array.any_eq_true,Bool.and_eq_true,beq_iff_eq]at h1;obtain⟨n,hn,h3,h4⟩:=h1;exact Pj h r j i h2 (by simpa using hl) (h4▸h k o ho hk _ (Array.getElem_mem hn) h3)
theorem ry(h:Gs ops s)(p:List Nat)(hp:yo ops (k::p)=true)(hl:(k::p).getLast?=some i)(bO:s.getD i true=false):s.getD k false=false:=by
 cases hk:s.getD k false with
 |false=>rfl
 |true=>have:=Pj h p k i hp hl hk;rw[CO bO]at this;cases this
theorem Xzz(h:Gs ops s)(hi:i∈Region.ready .any ops s):Gs ops (s.setIfInBounds i true):=by
 obtain⟨bO,oi,jb,aG⟩:=mem_ready.1 hi;have up:∀j,s.getD j false=true→(s.setIfInBounds i true).getD j false=true:=fun j hj=>by
  by_cases e:i=j
  ·subst e;exact IQ (CP bO)
  ·rw[getD_set_ne false e];exact hj
 intro j o ho hj e he hb;by_cases c:i=j
 ·subst c;rw[jb]at ho;cases ho;exact up _ (aG e he hb)
 ·rw[getD_set_ne false c]at hj;exact up _ (h j o ho hj e he hb)
theorem Xw3(i k:Nat)(hl:L.length=M.length)(h:∀j,j≠i→j≠k→L[j]?=M[j]?)(bO:s.getD i true=false)(hk:s.getD k false=false):cZ L 0 s a=cZ M 0 s a:=
 Tv _ _ _ _ _ hl fun j hj=>by
  rw[Nat.zero_add]at hj;exact h j (fun e=>by rw[e,CO bO]at hj;cases hj) (fun e=>by rw[e,hk]at hj;cases hj)
theorem BD(L:X→List (Option Tmp×Value))(C:X→Array Bool→World→Prop)(hm:P.follows .mixedOrders=true)(hb:zH ops=true)(h0:∃x,C x (Array.replicate ops.size false) {w with drawn:=w.drawn+1})
 (uI:∀x s a' w' i,s.size=ops.size→Gs ops s→a'=cZ (L x) 0 s a→C x s w'→i∈Region.ready .any ops s→wpOp P ops Q i (fun a'' w''=> ∃y,a''=cZ (L y) 0 (s.setIfInBounds i true) a∧C y (s.setIfInBounds i true) w'') a' w')
 (lF:∀x s a' w',(∀i,i<ops.size→s.getD i false=true)→a'=cZ (L x) 0 s a→C x s w'→Q .normal a' w'):(Code.region id ops true).wp P Q a w:=by
 refine Xht (X:=X) L (fun x s w'=>Gs ops s∧C x s w') hm hb ?_ ?_ ?_
 ·obtain⟨x,hx⟩:=h0;exact⟨x,fun i _ _ q=>(by rw[AR]at q;cases q),hx⟩
 ·rintro x s a' w' i eU ha ⟨iK,hC⟩ hi;exact wpOp_mono (fun a'' w'' ⟨y,h1,h2⟩=>⟨y,h1,Xzz iK hi,h2⟩) (uI x s a' w' i eU iK ha hC hi)
 ·rintro x s a' w' jQ ha ⟨_,hC⟩;exact lF x s a' w' jQ ha hC
theorem Fs(ty:TypeId)(x y:Operand)(ho:o.op= .store ty x y)
 (g off:Nat) (cs:List Value) (v:Value) (hx:a.eval x= .pointer (some ⟨g,off,none⟩)) (hy:a.eval y=v) (hv:v.cells=cs.toArray) (cur:Array Value) (tt:TypeId)
 (hg:w.heap[g]?=some (.cells cur tt (0,0))) (nk:off+cs.length≤cur.size) (hi:(P.info? ty).map (·.size)=some cs.length) (h1:∀v∈cs,v.oneCell'=true)
 (h:K (a.put o.dst undef) (w.setRow g (over cur off cs))):o.wp P a w K Q:=by
 have fO:=run_storeCells_at (P:=P) g off tt cs 0 cur w hg (by simpa using nk) h1;have Oh:(storeVar ty ⟨g,off,none⟩ v).run P w= .ok () (w.setRow g (over cur off cs)):=by
  cases hq:P.info? ty with
  |none=>simp[hq]at hi
  |some i=>
   have hs:cs.length=i.size:=by simp[hq]at hi;omega
   simp only[Nat.add_zero]at fO;simp[storeVar,sizeOf,typeInfo,hq,hv,hs,fO,over]
 unfold Oper.wp execOp;simp only[ho,hx,hy,Instr.storeAt,Instr.sureAddr,Sem.run_bind,Sem.run_pure,Result.andThen_ok,Oh];exact h
theorem Xip{w' w'':World}{r:Option Nat}(h:w.grownBy w' r)(k:w'.grownBy w'' r):w.grownBy w'' r:=
 ⟨k.os.trans h.os,k.tape.trans h.tape,k.output.trans h.output,Nat.le_trans h.size k.size,fun i hi hr=>(k.block i (Nat.lt_of_lt_of_le hi h.size) hr).trans (h.block i hi hr)⟩
theorem CQ(h:s.size≤i):s.getD i false=false:=by
 rw[Array.getD_eq_getD_getElem?,Array.getElem?_eq_none h];rfl
theorem Xmu(h:Gs ops s)(hp:yo ops [k,i]=true)(bO:s.getD i true=false):s.getD k false=false:=ry h [i] hp rfl bO
theorem Tw(D:List Nat)(hl:L.length=M.length)(h:∀j,j ∉ D→L[j]?=M[j]?)(aab:∀j∈D,s.getD j false=false):cZ L 0 s a=cZ M 0 s a:=
 Tv _ _ _ _ _ hl fun j hj=>by
  rw[Nat.zero_add]at hj;exact h j (fun e=>by rw[aab j e]at hj;cases hj)
theorem Xyp{α:Type}{T:Ty α}{E:TypeId}{I:IH}{l:List α}(h:aM T E I w B v l):∃ao cap,v= .slice ao l.length cap:=by
 obtain⟨xs,h1,_⟩:=h;rcases h1.2 with⟨h,h0⟩|⟨g,cap,cur,h,_⟩
 ·exact⟨none,0,by rw[h,h0]⟩
 ·exact⟨_,_,h⟩
structure RgC {Y:Type} (W:World) (jc ja:Nat) (Gc:Y→World→Prop) (Ga:Nat→World→Prop) (m:Nat×Y→Nat) (t:TypeId) (s1 s2 s3:Nat) (R1 R2 R3:Nat×Y→Array Value) (x:Nat×Y) (s:Array Bool) (w:World):Prop where
 off:s.getD s1 false=false→Below W.heap.size W w
 fc:s.getD jc false=true→s.getD s1 false=false→Gc x.2 w
 fa:s.getD ja false=true→s.getD s1 false=false→Ga x.1 w
 on:s.getD s1 false=true→ ∃wb,Below W.heap.size W wb∧Gc x.2 wb∧Ga x.1 wb∧wb.grownBy w (some (m x))∧
  w.heap[m x]?=some (.cells (if s.getD s3 false=true then R3 x else if s.getD s2 false=true then R2 x else R1 x) t (0,0))
section
variable {Y:Type} {W w w':World} {jc ja:Nat} {Gc:Y→World→Prop} {Ga:Nat→World→Prop} {m:Nat×Y→Nat} {t:TypeId} {s1 s2 s3:Nat} {R1 R2 R3:Nat×Y→Array Value} {x:Nat×Y} {s:Array Bool} {i:Nat}
end
theorem rz{rest:List Oper}(Cj:o.guard=none)(hd:o.dst=none)(ty:TypeId)(x y:Operand)(ho:o.op= .store ty x y)
 (g off:Nat) (cs:List Value) (v:Value) (hx:a.eval x= .pointer (some ⟨g,off,none⟩)) (hy:a.eval y=v) (hv:v.cells=cs.toArray) (cur:Array Value) (tt:TypeId)
 (hg:w.heap[g]?=some (.cells cur tt (0,0))) (nk:off+cs.length≤cur.size) (hi:(P.info? ty).map (·.size)=some cs.length) (h1:∀v∈cs,v.oneCell'=true) (R:Array Value) (hR:over cur off cs=R)
 (h:∀w',w.grownBy w' (some g)→w'.heap[g]?=some (.cells R tt (0,0))→wpList P ops Q rest a w'):wpList P ops Q (o::rest) a w:=by
 refine wpList_plain Cj fun _ hK=> ?_;exact Fs ty x y ho g off cs v hx hy hv cur tt hg nk hi h1 (hK _ _ (by rw[hd];exact h _ Bp (by rw[←hR];exact setRow_heap w g cur _ tt (0,0) hg)))
structure lT (I:IH) (w0:World) (J:IH) (W:World):Prop where
 ok:Ok J W
 keep:∀b c,I b=some c→J b=some c
 fA:Below w0.heap.size w0 W
section
variable {I J J':IH} {w0 W W':World}
theorem lT.start(h:Ok I w0):lT I w0 I w0:=⟨h,fun _ _ h=>h,Qb _ _⟩
theorem lT.quiet(h:lT I w0 J W)(hb:Below W.heap.size W W'):lT I w0 J W':=⟨h.ok.below (Qn _) hb,h.keep,h.fA.trans (hb.mono h.fA.size)⟩
theorem lT.past(h:lT I w0 J W)(o:Obj):lT I w0 J (W.alloc o):=h.quiet ((Qb _ _).alloc (Qn _) o)
theorem lT.ext(h:lT I w0 J W)(hb:Below W.heap.size W W')(hx:Ext W.heap.size J J')(gK:Ok J' W'):lT I w0 J' W':=
 ⟨gK,fun b c hc=>hx.keep h.ok (Qn _) b c (h.keep b c hc),h.fA.trans (hb.mono h.fA.size)⟩
theorem lT.size(h:lT I w0 J W):w0.heap.size≤W.heap.size:=h.fA.size
end
abbrev ug(e:Int):Value:= .iface 190 (.agg #[.int .i64 e])
abbrev vM(e:Int):Ending:= .panicked [{v:=ug e,recovered:=false}]
abbrev dJ(n:Nat):Value:= .pointer (some ⟨n,0,none⟩)
abbrev Pk:Value:= .func (.func 232) #[] #[]
abbrev zI(n:Nat):Value:= .func (.func 233) #[] #[dJ n,dJ (n+1),dJ (n+3)]
abbrev BF(n:Nat):Value:= .func (.func 234) #[] #[dJ n,dJ (n+1),dJ (n+3)]
abbrev cntF(n:Nat):Value:= .func (.func 235) #[] #[dJ (n+2),dJ (n+3)]
structure vg (W:World) (n:Nat) (s:ae) (ba:Nat):Prop where
 r0:W.heap[n]?=some (.cells #[S s] 9 (0,0))
 r1:W.heap[n+1]?=some (.cells #[dJ ba] 195 (0,0))
 r2:W.heap[n+2]?=some (.cells #[zI n] 171 (0,0))
 r3:W.heap[n+3]?=some (.cells #[Pk] 247 (0,0))
 lt:ba<n
def uh(W:World)(ba:Nat)(a:Nat):Prop:=W.heap[ba]?=some (.cells #[.int .i64 (a:Int)] 3 (0,0))
section
variable {W W' W'':World} {n ba a:Nat} {s:ae} {row:Option Nat}
theorem jC(h:W.heap[k]?=some (.cells c e (0,0)))(hg:W.grownBy W' row)(cK:row≠some k):W'.heap[k]?=some (.cells c e (0,0)):=
 (hg.block k (Qg h) (fun q=>cK q.symm)).trans h
theorem mV(h:W.heap[k]?=some (.cells c e (0,0)))(hb:Below W.heap.size W W'):W'.heap[k]?=some (.cells c e (0,0)):=
 (hb.block k (Qg h)).trans h
theorem vg.own(h:vg W n s ba)(hg:W.grownBy W' row)(cK:∀g,row=some g→g<n∨n+3<g):vg W' n s ba:=
 ⟨jC h.r0 hg (fun q=>by have:=cK _ q;omega),jC h.r1 hg (fun q=>by have:=cK _ q;omega),jC h.r2 hg (fun q=>by have:=cK _ q;omega),jC h.r3 hg (fun q=>by have:=cK _ q;omega),h.lt⟩
theorem vg.aA(h:vg W n s ba)(hb:Below W.heap.size W W'):vg W' n s ba:=⟨mV h.r0 hb,mV h.r1 hb,mV h.r2 hb,mV h.r3 hb,h.lt⟩
theorem WC(hb:Below W.heap.size W W')(hg:W'.grownBy W'' row):W.grownBy W'' row:=
 ⟨hg.os.trans hb.os,hg.tape.trans hb.tape,hg.output.trans hb.output,Nat.le_trans hb.size hg.size,fun k hk cK=>(hg.block k (Nat.lt_of_lt_of_le hk hb.size) cK).trans (hb.block k hk)⟩
end
theorem Xkd(w:World):Calls Tryz.prog 232 #[.int .i64 0] w fun e w'=>e= .returned (.tuple #[])∧w'=w:=by
 go_enter Tryz.func232,Tryz.ntmps232
 go_wp2;go_end0
 exact⟨rfl,rfl⟩
theorem WE(x:Int)(hx:(x !=0)=true)(w:World):Calls Tryz.prog 232 #[.int .i64 x] w fun e w'=>e=vM x∧w'=w:=by
 go_enter Tryz.func232,Tryz.ntmps232
 go_wp2;exact⟨rfl,rfl,rfl⟩
theorem cell0(h:W.heap[k]?=some (.cells #[v] e (0,0))):W.cell? ⟨k,0,none⟩=some v:=(cell_of_row _ _ 0 _ _ _ h).trans rfl
theorem Pm(h:W.heap[k]?=some (.cells c e (0,0))):W.frozen? ⟨k,0,none⟩=false:=by
 unfold World.frozen?;rw[h];rfl
theorem Fu:(Tryz.prog.info? 3).map (·.size)=some 1:=by kernel_rfl
theorem Kq(I:IH)(hI:dG I)(s:ae)(hs:s.length≤4294967280)(n ba a:Nat)(w:World)(hw:Ok I w)(hB:vg w n s ba)(hA:uh w ba a)(ha:a≤4294967280)(x:ae)(b:Nat)(h:rdStr s a= .ok (x,b)):
 Calls Tryz.prog 234 #[dJ n,dJ (n+1),dJ (n+3)] w fun e w'=>e= .returned (S x)∧uh w' ba b∧w.grownBy w' (some ba):=by
 have Hr:=Qh (fun w hw=>Wz I hI s hs a (by omega) w hw);rw[h,Tq]at Hr;have Hb:=Qh hB;have Ha:=Qh hA;have c0:=cell0 hB.r0;have c1:=cell0 hB.r1;have c3:=cell0 hA;have f3:=Pm hA;have g0:=cell_regrown c0;have g1:=cell_regrown c1;have g3:=cell_regrown c3;clear h hA hB c0 c1 c3 f3;go_enter Tryz.func234,Tryz.ntmps234
 go_wp2_with fail
 refine wp_region_quiet_below (by kernel_rfl) (by kernel_rfl) ?_;repeat(go_big_quiet_step ((with_reducible exact Calls.regrown_of (Hr.O _ (hw.below (Qn _) (below_regrown _ _ _))))))
 refine wpQuiet_nil ?_;intro w1 bg;have au:Below (w).heap.size (w) w1:=by
  obtain⟨pq,rfl⟩:=bg;exact below_regrown _ _ _
 clear bg;clear g0 g1 g3 Hr;have gT:=Qh (Hb.O.aA au);have HA1:=Qh (show uh w1 ba a from mV Ha.O au);have c1:=cell0 gT.O.r1;have c2:=cell0 gT.O.r3;go_wp2_with fail
 refine(Xkd _).mono ?_;rintro e w2 ⟨rfl,rfl⟩
 go_wp2_with (refine rz rfl rfl 3 _ _ rfl ba 0 [.int .i64 (b:Int)] (.int .i64 (b:Int)) (by simp[Act.eval]) (by simp[Act.eval]) (by rfl) _ 3 HA1.O (by simp) Fu (by simp[Value.oneCell']) #[.int .i64 (b:Int)] (by rfl) ?_
              intro w3 uJ gB)
 go_wp2;go_ret;exact⟨rfl,gB,WC au uJ⟩
theorem Kr(I:IH)(hI:dG I)(s:ae)(hs:s.length≤4294967280)(n ba a:Nat)(w:World)(hw:Ok I w)(hB:vg w n s ba)(hA:uh w ba a)(ha:a≤4294967280)(z:Int)(hz:(z !=0)=true)(h:rdStr s a= .error z):
 Calls Tryz.prog 234 #[dJ n,dJ (n+1),dJ (n+3)] w fun e w'=>e=vM z∧Below w.heap.size w w':=by
 have Hr:=Qh (fun w hw=>Wz I hI s hs a (by omega) w hw);rw[h,Tt]at Hr;have Hb:=Qh hB;have g0:=cell_regrown (cell0 hB.r0);have g1:=cell_regrown (cell0 hB.r1);have g3:=cell_regrown (cell0 hA);clear h hA hB;go_enter Tryz.func234,Tryz.ntmps234
 go_wp2_with fail
 refine wp_region_quiet_below (by kernel_rfl) (by kernel_rfl) ?_;repeat(go_big_quiet_step ((with_reducible exact Calls.regrown_of (Hr.O _ (hw.below (Qn _) (below_regrown _ _ _))))))
 refine wpQuiet_nil ?_;intro w1 bg;have au:Below (w).heap.size (w) w1:=by
  obtain⟨pq,rfl⟩:=bg;exact below_regrown _ _ _
 clear bg;clear g0 g1 g3 Hr;have c2:=cell0 (Hb.O.aA au).r3;go_wp2_with fail
 refine(WE _ hz _).mono ?_;rintro e w2 ⟨rfl,rfl⟩;go_wp2;exact⟨rfl,rfl,au⟩
theorem Nq(I:IH)(hI:dG I)(s:ae)(hs:s.length≤4294967280)(n ba a:Nat)(w:World)(hw:Ok I w)(hB:vg w n s ba)(hA:uh w ba a)(ha:a≤4294967280)(x:Int)(b:Nat)(h:rdNum s a= .ok (x,b)):
 Calls Tryz.prog 233 #[dJ n,dJ (n+1),dJ (n+3)] w fun e w'=>e= .returned (.int .i64 x)∧uh w' ba b∧w.grownBy w' (some ba):=by
 have Hr:=Qh (fun w hw=>Wy I hI s hs a (by omega) w hw);rw[h,X0g]at Hr;have Hb:=Qh hB;have Ha:=Qh hA;have c0:=cell0 hB.r0;have c1:=cell0 hB.r1;have c3:=cell0 hA;have f3:=Pm hA;have g0:=cell_regrown c0;have g1:=cell_regrown c1;have g3:=cell_regrown c3;clear h hA hB c0 c1 c3 f3;go_enter Tryz.func233,Tryz.ntmps233
 go_wp2_with fail
 refine wp_region_quiet_below (by kernel_rfl) (by kernel_rfl) ?_;repeat(go_big_quiet_step ((with_reducible exact Calls.regrown_of (Hr.O _ (hw.below (Qn _) (below_regrown _ _ _))))))
 refine wpQuiet_nil ?_;intro w1 bg;have au:Below (w).heap.size (w) w1:=by
  obtain⟨pq,rfl⟩:=bg;exact below_regrown _ _ _
 clear bg;clear g0 g1 g3 Hr;have gT:=Qh (Hb.O.aA au);have HA1:=Qh (show uh w1 ba a from mV Ha.O au);have c1:=cell0 gT.O.r1;have c2:=cell0 gT.O.r3;go_wp2_with fail
 refine(Xkd _).mono ?_;rintro e w2 ⟨rfl,rfl⟩
 go_wp2_with (refine rz rfl rfl 3 _ _ rfl ba 0 [.int .i64 (b:Int)] (.int .i64 (b:Int)) (by simp[Act.eval]) (by simp[Act.eval]) (by rfl) _ 3 HA1.O (by simp) Fu (by simp[Value.oneCell']) #[.int .i64 (b:Int)] (by rfl) ?_
              intro w3 uJ gB)
 go_wp2;go_ret;exact⟨rfl,gB,WC au uJ⟩
theorem Pn(I:IH)(hI:dG I)(s:ae)(hs:s.length≤4294967280)(n ba a:Nat)(w:World)(hw:Ok I w)(hB:vg w n s ba)(hA:uh w ba a)(ha:a≤4294967280)(z:Int)(hz:(z !=0)=true)(h:rdNum s a= .error z):
 Calls Tryz.prog 233 #[dJ n,dJ (n+1),dJ (n+3)] w fun e w'=>e=vM z∧Below w.heap.size w w':=by
 have Hr:=Qh (fun w hw=>Wy I hI s hs a (by omega) w hw);rw[h,X0f]at Hr;have Hb:=Qh hB;have g0:=cell_regrown (cell0 hB.r0);have g1:=cell_regrown (cell0 hB.r1);have g3:=cell_regrown (cell0 hA);clear h hA hB;go_enter Tryz.func233,Tryz.ntmps233
 go_wp2_with fail
 refine wp_region_quiet_below (by kernel_rfl) (by kernel_rfl) ?_;repeat(go_big_quiet_step ((with_reducible exact Calls.regrown_of (Hr.O _ (hw.below (Qn _) (below_regrown _ _ _))))))
 refine wpQuiet_nil ?_;intro w1 bg;have au:Below (w).heap.size (w) w1:=by
  obtain⟨pq,rfl⟩:=bg;exact below_regrown _ _ _
 clear bg;clear g0 g1 g3 Hr;have c2:=cell0 (Hb.O.aA au).r3;go_wp2_with fail
 refine(WE _ hz _).mono ?_;rintro e w2 ⟨rfl,rfl⟩;go_wp2;exact⟨rfl,rfl,au⟩
