/-
  Walks and laws that the claim's theorem uses: texts Ext SoQ, joined; comments out. Conditions: as each theorem says.
-/
import Derived.Test.YtjdednajelommaaGreatDoorQ41
import Derived.Test.YtjdednajelommaaGreatDoorQ39
import Derived.Test.YtjdednajelommaaGreatDoorQ38
set_option linter.unusedSimpArgs false
set_option linter.unusedVariables false
namespace Go.Proofs.YtjdednajelommaaGreatDoor
open Go.RowKit Go.Lib
theorem conv_byte {P:Program} (src dst e:TypeId) (hs:P.underlying src=some (.slice e)) (he:P.underlying e=some (.int .u8)) (hd:P.underlying dst=some .string) (W:World) (t:TypeId) (v:Int):
 (convert src dst (.slice (some ⟨W.heap.size,0,none⟩) 1 1)).run P (W.alloc (.cells #[.int .u8 v] t))= .ok (S [UInt8.ofNat v.toNat]) (W.alloc (.cells #[.int .u8 v] t)):=by
 rw [run_convert_bytes_string _ _ _ e _ _ _ hs he hd,run_bytesToString (ns:= [v])]
 ·rfl
 ·exact run_loadCells_list (P:=P) _ ⟨W.heap.size,0,none⟩ [Value.int .u8 v] (fun j u hu=>by
   rw [Addr.add_lit,World.cell?_alloc_at _ _ _ _ rfl]
   simpa using hu)
theorem last_snoc (L:List Ses) (s:Ses):lastDt (L++ [s])=s.date∧lastDig (L++ [s])=sumP (sesText s):=by
 unfold lastDt lastDig
 simp
theorem digits_snocH (a:Bytes) (c:UInt8):digits (a++ [c])=10*digits a+((c.toNat:Int)-48):=by
 unfold digits
 rw [List.foldl_append];rfl
theorem dig_one {n:Nat} (h:n<10):decDigits n= [UInt8.ofNat (48+n)]:=by
 exact decDigits_one h
theorem dig_byte {n:Nat} (h:n<10):(UInt8.ofNat (48+n)).toNat=48+n:=by
 rw [UInt8.toNat_ofNat'];omega
theorem dec_ok:∀(k n:Nat),1≤k→n<10 ^ k→DecOk n k (decDigits n)
 |0,_,h,_=>absurd h (by decide)
 |k+1,n,_,hn=>by
  by_cases h:n<10
  ·have hb:=dig_byte h
   rw [dig_one h]
   refine ⟨?_,⟨Qn _,by simp⟩,?_,fun h1=> ?_,fun _=>rfl⟩
   ·unfold digits
    simp only [List.foldl_cons,List.foldl_nil,hb]
    omega
   ·have h1:(48:UInt8)≤UInt8.ofNat (48+n):=by rw [UInt8.le_iff_toNat_le,hb];show 48≤_;omega
    have h2:UInt8.ofNat (48+n)≤57:=by rw [UInt8.le_iff_toNat_le,hb];show _≤57;omega
    generalize UInt8.ofNat (48+n)=ch at h1 h2
    simp [h1,h2]
   ·intro e
    have e:UInt8.ofNat (48+n)=48:=by simpa using e
    have:=congrArg UInt8.toNat e
    rw [hb] at this
    have h48:(48:UInt8).toNat=48:=rfl
    omega
  ·have hk:1≤k:=by
    rcases Nat.eq_zero_or_pos k with rfl|h0
    ·simp at hn;omega
    ·exact h0
   have hq:n / 10<10 ^ k:=by
    rw [Nat.pow_succ] at hn
    exact Nat.div_lt_of_lt_mul (by rw [Nat.mul_comm];exact hn)
   have ih:=dec_ok k (n / 10) hk hq
   have hr:n%10<10:=Nat.mod_lt _ (by decide)
   have hb:=dig_byte hr
   rw [Xju h,dig_one hr]
   refine ⟨?_,⟨by simp,?_⟩,?_,fun _=> ?_,fun h1=>absurd h1 h⟩
   ·rw [digits_snocH,ih.val,hb];omega
   ·rw [List.length_append];have:=ih.len.2;simp;omega
   ·rw [List.all_append,ih.all]
    have h1:(48:UInt8)≤UInt8.ofNat (48+n%10):=by rw [UInt8.le_iff_toNat_le,hb];show 48≤_;omega
    have h2:UInt8.ofNat (48+n%10)≤57:=by rw [UInt8.le_iff_toNat_le,hb];show _≤57;omega
    generalize UInt8.ofNat (48+n%10)=ch at h1 h2
    simp [h1,h2]
   ·have h1:=ih.head (by omega)
    have h2:=ih.len.1
    intro e
    apply h1
    rw [List.head?_append] at e
    cases hd:(decDigits (n / 10)).head? with
    |none=>rw [List.head?_eq_none_iff] at hd;rw [hd] at h2;simp at h2
    |some c=>rw [hd] at e;simpa using e
theorem dec_date {n:Nat} (h:n≤1000000000):dateOk (decDigits n)=true∧digits (decDigits n)=(n:Nat):=by
 have k:=dec_ok 10 n (by decide) (by omega)
 refine ⟨?_,k.val⟩
 unfold dateOk
 rw [k.all,k.val,Qt k.len.1,Qt k.len.2,Qt (show ((n:Nat):Int)≤1000000000 by omega)]
 by_cases h1:n<10
 ·rw [k.one h1];rfl
 ·have h2:=k.head (by omega)
  have:((decDigits n).head? ==some 48)=false:=by simpa using h2
  rw [this];simp
theorem putP_nil (q:Sto):(putP q []).1=q∧(putP q []).2.1= []:=by
 unfold putP
 split
 ·exact ⟨rfl,rfl⟩
 ·exact ⟨rfl,rfl⟩
theorem recP_empty {q:Sto} {c:Chg} (h:c.content= []):recP q c=(⟨c.kind,c.path,c.attrs,c.target,0,if c.kind=1 then sumP [] else [],[]⟩,q):=by
 unfold recP
 rw [h]
 split
 ·rw [(putP_nil q).1,(putP_nil q).2];rfl
 ·rfl
theorem wrt_one {L:List Ses} {date:Int} (hb:begErr L date=0) {c:Chg} (hc:c.content= []) {e:Ent} (he:e=⟨c.kind,c.path,c.attrs,c.target,0,if c.kind=1 then sumP [] else [],[]⟩) (h0:entErr e=0):
 (∀r,(stpP (openP L date).stt e date).2=r→r≠0→wrtP L date [c]=(L,0,r))∧
 ((stpP (openP L date).stt e date).2=0→wrtP L date [c]=(L++ [⟨(L.length:Nat)+1,date,lastDig L,[e],[],[]⟩],1,0)):=by
 have hr:recP (openP L date).sto c=(e,(openP L date).sto):=by rw [recP_empty hc,he]
 have hd:(openP L date).date=date:=rfl
 have ha:∀r,(stpP (openP L date).stt e date).2=r→addP (openP L date) c=if r≠0 then (openP L date,r) else (⟨(L.length:Nat)+1,date,lastDig L,[e],(openP L date).sto,(stpP (openP L date).stt e date).1.tree,(stpP (openP L date).stt e date).1.holds⟩,0):=by
  intro r hr2
  unfold addP
  rw [hr,hd]
  dsimp only
  have h3:¬(400≤(openP L date).ents.length∨14680064<(openP L date).sto.str.length):=by
   rintro (h|h)
   ·have h:400≤0:=h
    omega
   ·have h:14680064<0:=h
    omega
  rw [if_neg (by omega),if_neg (by rintro ⟨_,h⟩;exact h hc),if_neg h3,hr2]
  by_cases hz:r≠0
  ·rw [if_pos hz,if_pos hz]
  ·rw [if_neg hz,if_neg hz];rfl
 refine ⟨fun r h1 h2=> ?_,fun h1=> ?_⟩
 ·have h3:=ha r h1
  rw [if_pos h2] at h3
  unfold wrtP
  rw [if_neg (by omega),addsP,h3,if_pos h2,if_pos h2]
 ·have h3:=ha 0 h1
  rw [if_neg (by decide)] at h3
  unfold wrtP
  rw [if_neg (by omega),addsP,h3,if_neg (fun h=>h rfl),addsP,if_neg (fun h=>h rfl)]
  rfl
theorem under_self {p:Bytes} (h:pathErr p=0):under p p=true:=by
 unfold under
 rw [Qt h]
 simp
theorem err_hold {p num:Bytes} (hp:pathErr p=0) (hd:dateOk num=true):entErr ⟨5,p,[],num,0,[],[]⟩=0:=by
 simp [entErr,hp,chk,chkFrom,targetOk,hd,xtsErr,xtSum]
theorem err_rem {p:Bytes} (hp:pathErr p=0) (hne:p≠ []):entErr ⟨4,p,[],[],0,[],[]⟩=0:=by
 simp [entErr,hp,hne,chk,chkFrom,targetOk,xtsErr,xtSum]
theorem err_same {k:Int} {p:Bytes} (hk:k=1∨k=2∨k=3) (hp:pathErr p=0) (hne:p≠ []):entErr ⟨k,p,[],if k=3 then [120] else [],0,if k=1 then sumP [] else [],[]⟩=0:=by
 have h32:=Xxn []
 rcases hk with rfl|rfl|rfl<;>simp [entErr,hp,hne,chk,chkFrom,targetOk,xtsErr,xtSum,h32]
theorem aft_one (L:List Ses) (s:Ses):aftS nilS (L++ [s])=runS (aftS nilS L) s.date s.ents:=by rw [Xpx];rfl
theorem stp_ok {s:Stt} {e:Ent} {d:Int} {t:List Ent} {h:List Ho} (h1:applyT s.tree e=(t,0)) (h2:askP s e d=0) (h3:appH s.holds e d=(h,0)):stpP s e d=(⟨t,h⟩,0):=by
 unfold stpP
 rw [h1,h2,h3]
 rfl
theorem stp_ask {s:Stt} {e:Ent} {d:Int} {t:List Ent} {r:Int} (h1:applyT s.tree e=(t,0)) (h2:askP s e d=r) (hr:r≠0):stpP s e d=(s,r):=by
 unfold stpP
 rw [h1,h2]
 dsimp only
 rw [if_neg (by decide),if_pos hr]
theorem holds_plain {n m:Nat} {L:List Ses} (h:ArcOk n m L) (hn:n≤50000) (hm:m≤250) {date:Int} (hdt:date=lastDt L) (hd0:0≤date) (hd:date≤999999000) {x:Ent} (hx:x∈(openP L date).tree) (hh:(openP L date).holds= []) {days:Nat} (hy:days≤255):
 ∃s1 s2,wrtP L date [⟨5,x.path,[],decDigits (date.toNat+days),[]⟩]=(L++ [s1],1,0)∧
  wrtP (L++ [s1]) (date+days) [⟨4,x.path,[],[],[]⟩]=(L++ [s1],0,15)∧
  wrtP (L++ [s1]) (date+days) [⟨x.kind,x.path,[],if x.kind=3 then [120] else [],[]⟩]=(L++ [s1],0,15)∧
  wrtP (L++ [s1]) (date+days+1) [⟨4,x.path,[],[],[]⟩]=(L++ [s1]++ [s2],1,0)∧
  begErr (L++ [s1]++ [s2]) (date+days+1)=0∧getT (openP (L++ [s1]++ [s2]) (date+days+1)).tree x.path=none:=by
 have hlen:=h.len
 have hok:=h.sinAll.ok
 have hT:=hok.tree
 have hx:x∈(aftS nilS L).tree:=hx
 have hh:actP (aftS nilS L).holds date= []:=hh
 have hp:=(Xb5 (hT.ent x hx)).2.2.1
 have hk:=hT.kind x hx
 have hne:x.path≠ []:=fun e=>by have:=(Xb5 (hT.ent x hx)).2.2.2 e;omega
 have hg:=Xgg hT.srt hx
 have hu:=hT.up x hx
 obtain ⟨T,hTT⟩:∃T,(aftS nilS L).tree=T:=⟨_,rfl⟩
 obtain ⟨D,hD⟩:∃D:Int,date+days=D:=⟨_,rfl⟩
 have hD0:D=((date.toNat+days:Nat):Int):=by omega
 have hdd:=dec_date (n:=date.toNat+days) (by omega)
 have hap:=Xp8 (t:=T) (h:=(aftS nilS L).holds) (h':= []) (d:=date) (by rw [hh];rfl)
 have hst:aftS nilS L=⟨T,(aftS nilS L).holds⟩:=by rw [←hTT]
 rw [hTT] at hg hu hx
 generalize hnum:decDigits (date.toNat+days)=num at hdd
 have b1:begErr L date=0:=by
  unfold begErr
  rw [if_neg (by omega),if_neg (by omega),if_neg (by omega)]
 have e1:stpP ⟨T,[]⟩ ⟨5,x.path,[],num,0,[],[]⟩ date=(⟨T,[⟨x.path,D⟩]⟩,0):=by
  refine stp_ok ?_ ?_ ?_
  ·unfold applyT
   dsimp only
   rw [if_neg (by rw [err_hold hp hdd.1];decide),if_pos (by decide),if_neg (by rintro ⟨q,_⟩;rw [hg] at q;cases q),if_neg (by decide)]
  ·unfold askP alwP
   simp
  ·unfold appH
   dsimp only
   rw [if_pos rfl]
   show ([(⟨x.path,untilH x.path [] (digits num)⟩:Ho)],(0:Int))=_
   rw [hdd.2,←hD0];rfl
 have w1:=(wrt_one (L:=L) (date:=date) (c:=⟨5,x.path,[],num,[]⟩) b1 rfl (e:=⟨5,x.path,[],num,0,[],[]⟩) rfl (err_hold hp hdd.1)).2 (by
  have:(openP L date).stt=⟨T,[]⟩:=by unfold Drf.stt openP;dsimp only;rw [hh,hTT]
  rw [this,e1])
 obtain ⟨s1,hs1⟩:∃s1:Ses,(⟨(L.length:Nat)+1,date,lastDig L,[⟨5,x.path,[],num,0,[],[]⟩],[],[]⟩:Ses)=s1:=⟨_,rfl⟩
 rw [hs1] at w1
 have a1:aftS nilS (L++ [s1])=⟨T,[⟨x.path,D⟩]⟩:=by
  rw [aft_one,←hs1]
  show (stpP (aftS nilS L) _ date).1=_
  rw [hst,(hap _).2 (by rw [e1]),e1]
 have l1:lastDt (L++ [s1])=date:=by rw [(last_snoc L s1).1,←hs1]
 have n1:(L++ [s1]).length=L.length+1:=by simp
 have o1:∀dd,(openP (L++ [s1]) dd).stt=⟨T,actP [⟨x.path,D⟩] dd⟩:=fun dd=>by
  unfold Drf.stt openP
  dsimp only
  rw [a1]
 have act1:actP [(⟨x.path,D⟩:Ho)] D= [⟨x.path,D⟩]:=by unfold actP;simp
 have act2:actP [(⟨x.path,D⟩:Ho)] (D+1)= []:=by unfold actP;simp;omega
 have b2:begErr (L++ [s1]) D=0:=by
  unfold begErr
  rw [if_neg (by omega),if_neg (by omega),if_neg (by omega)]
 have b3:begErr (L++ [s1]) (D+1)=0:=by
  unfold begErr
  rw [if_neg (by omega),if_neg (by omega),if_neg (by omega)]
 have held:heldP [(⟨x.path,D⟩:Ho)] x.path D=true:=by
  unfold heldP
  rw [act1]
  simp [under_self hp]
 have ap4:applyT T ⟨4,x.path,[],[],0,[],[]⟩=(T.filter fun y=> !(under y.path x.path),0):=by
  unfold applyT
  dsimp only
  rw [if_neg (by rw [err_rem hp hne];decide),if_pos (by decide),if_neg (by rintro ⟨q,_⟩;rw [hg] at q;cases q),if_pos rfl]
 rw [hD]
 refine ⟨s1,⟨((L++ [s1]).length:Nat)+1,D+1,lastDig (L++ [s1]),[⟨4,x.path,[],[],0,[],[]⟩],[],[]⟩,w1,?_,?_,?_,?_,?_⟩
 ·refine (wrt_one (c:=⟨4,x.path,[],[],[]⟩) b2 rfl (e:=⟨4,x.path,[],[],0,[],[]⟩) rfl (err_rem hp hne)).1 15 ?_ (by decide)
  rw [o1,act1,stp_ask (r:=15) ap4 ?_ (by decide)]
  unfold askP alwP
  simp [held]
 ·refine (wrt_one (c:=⟨x.kind,x.path,[],if x.kind=3 then [120] else [],[]⟩) b2 rfl (e:=⟨x.kind,x.path,[],if x.kind=3 then [120] else [],0,if x.kind=1 then sumP [] else [],[]⟩) rfl (err_same hk hp hne)).1 15 ?_ (by decide)
  rw [o1,act1]
  have ap:applyT T ⟨x.kind,x.path,[],if x.kind=3 then [120] else [],0,if x.kind=1 then sumP [] else [],[]⟩=(putT T ⟨x.kind,x.path,[],if x.kind=3 then [120] else [],0,if x.kind=1 then sumP [] else [],[]⟩,0):=by
   unfold applyT
   dsimp only
   rw [if_neg (by rw [err_same hk hp hne];decide),if_neg (by omega),if_neg (by rw [hu];decide),hg]
   simp
  rw [stp_ask (r:=15) ap ?_ (by decide)]
  unfold askP alwP
  dsimp only
  rw [if_pos (by rw [hg];exact .inr rfl),if_pos hk,held]
  rfl
 ·refine (wrt_one (c:=⟨4,x.path,[],[],[]⟩) b3 rfl (e:=⟨4,x.path,[],[],0,[],[]⟩) rfl (err_rem hp hne)).2 ?_
  rw [o1,act2,stp_ok ap4 ?_ rfl]
  unfold askP alwP heldP belowP actP
  simp
 ·unfold begErr
  rw [if_neg (by rw [List.length_append,n1];simp;omega),if_neg (by omega),if_neg (by rw [(last_snoc _ _).1];dsimp only;omega)]
 ·show getT (aftS nilS (L++ [s1]++ [_])).tree x.path=none
  rw [aft_one,a1]
  show getT (stpP ⟨T,[⟨x.path,D⟩]⟩ _ (D+1)).1.tree x.path=none
  rw [stp_ok ap4 (h:= []) ?_ ?_]
  ·refine Xrh fun y hy e=> ?_
   have:=(List.mem_filter.1 hy).2
   rw [e,under_self hp] at this
   cases this
  ·unfold askP alwP heldP belowP
   simp [act2]
  ·unfold appH
   simp [act2]
theorem conv_cell {P:Program} (src dst e:TypeId) (hs:P.underlying src=some (.slice e)) (he:P.underlying e=some (.int .u8)) (hd:P.underlying dst=some .string) (W:World) (g:Nat) (v:Int) (hc:W.cell? ⟨g,0,none⟩=some (.int .u8 v)):
 (convert src dst (.slice (some ⟨g,0,none⟩) 1 1)).run P W= .ok (S [UInt8.ofNat v.toNat]) W:=by
 rw [run_convert_bytes_string _ _ _ e _ _ _ hs he hd,run_bytesToString (ns:= [v])]
 ·rfl
 ·exact run_loadCells_list (P:=P) _ ⟨g,0,none⟩ [Value.int .u8 v] (fun j u hu=>by
   have hj:j=0:=by have:=(List.getElem?_eq_some_iff.1 hu).1;simp at this;omega
   subst hj
   rw [Addr.add_lit]
   simp at hu
   subst hu
   exact hc)
theorem nuL_apart {n:Nat} {p:Bytes} {c:UInt8} {x:Nat}:ApartF (nuL n p c x):=by
 unfold ApartF
 simp
set_option maxRecDepth 100000 in
set_option maxHeartbeats 2000000 in
theorem l39_number (n:Nat) (hn:n≤1000000000000):∀w:World,Calls Tryz.prog 32 #[.int .i64 n] w fun e w'=>e= .returned (S (decDigits n))∧Below w.heap.size w w':=by
 induction n using Nat.strongRecOn with
 |ind n ih=>
 intro w
 by_cases h:n<10
 ·have Hd:=Qh (dig_one h)
  have d1:decide ((n:Int)<10)=true:=Qt (by omega)
  have m1:IntKind.i64.wrap (48+(n:Int))=48+(n:Int):=IntWalk.i64_in _ (by omega)
  have m2:IntKind.u8.wrap (48+(n:Int))=48+(n:Int):=IntWalk.u8_in _ (by omega)
  have hcv:=conv_byte (P:=Tryz.prog) 72 9 5 Tryz.underlying72 Tryz.underlying5 Tryz.underlying9 w 5 (48+(n:Int))
  have hto:(48+(n:Int)).toNat=48+n:=by omega
  rw [hto] at hcv
  obtain ⟨c,hc⟩:∃c,UInt8.ofNat (48+n)=c:=⟨_,rfl⟩
  rw [hc] at Hd hcv
  clear ih hto hc
  go_enter Tryz.func32,Tryz.ntmps32
  go_wp2
  go_ret
  exact ⟨Xo6 Hd.out.symm,(Qb _ _).alloc (Qn _) _⟩
 ·have Hd:=Qh (show decDigits n=decDigits (n / 10)++ [UInt8.ofNat (48+n%10)] by rw [decDigits.eq_def n,dif_neg h])
  have Hi:=Qh (ih (n / 10) (by omega) (by omega))
  rw [show ((n / 10:Nat):Int)=(n:Int) / 10 by omega] at Hi
  have d1:decide ((n:Int)<10)=false:=Qf (by omega)
  have m1:IntKind.i64.wrap (48+(n:Int)%10)=48+(n:Int)%10:=IntWalk.i64_in _ (by omega)
  have m2:IntKind.u8.wrap (48+(n:Int)%10)=48+(n:Int)%10:=IntWalk.u8_in _ (by omega)
  obtain ⟨p,hp⟩:∃p,decDigits (n / 10)=p:=⟨_,rfl⟩
  obtain ⟨c,hc⟩:∃c,UInt8.ofNat (48+n%10)=c:=⟨_,rfl⟩
  have hl1:(decDigits n).length≤13:=by rw [decDigits_length];exact Xim _ _ (by omega) (by omega)
  have Hcv:=Qh (fun W g hc=>conv_cell (P:=Tryz.prog) 72 9 5 Tryz.underlying72 Tryz.underlying5 Tryz.underlying9 W g (48+(n:Int)%10) hc)
  have hto:(48+(n:Int)%10).toNat=48+n%10:=by omega
  rw [hto,hc] at Hcv
  have m3:IntKind.i64.wrap ((n:Int) / 10)=(n:Int) / 10:=IntWalk.i64_in _ (by omega)
  have m4:(n:Int).tmod 10=(n:Int)%10:=Int.tmod_eq_emod_of_nonneg (by omega)
  have m5:IntKind.i64.wrap ((n:Int)%10)=(n:Int)%10:=IntWalk.i64_in _ (by omega)
  have hpl:p.length≤12:=by rw [←hp,decDigits_length];exact Xim _ _ (by omega) (by omega)
  have hpl2:¬9223372036854775807<p.length+1:=by omega
  rw [hp] at Hi
  rw [hp,hc] at Hd
  clear ih
  go_enter Tryz.func32,Tryz.ntmps32
  go_wp2_with fail
  refine Xah (X:=Nat) (nuL n p c) (RgF w 7 223 224 225 (fun x w=>w.cell? ⟨x,0,none⟩=some (.int .u8 (48+(n:Int)%10))) (fun _ _=>True) (fun _ _=>True) (fun _ _=>True)) (by kernel_rfl) (by kernel_rfl) ?_ ?_ ?_
  ·exact ⟨0,RgF.start _ _⟩
  ·rintro x s' a' w' i hsz hcl ha hC hi
   obtain ⟨hun,oi,hoi,hall⟩:=mem_ready.1 hi
   have ev:=Xcv nuL_apart ha
   rcases i with _|_|_|_|_|_|_|_|_|_|_|i
   rotate_left 11
   ·simp at hoi
   all_goals
    have hoj:=hoi
    simp at hoi
    subst hoi
    simp [Region.binds] at hall
    have hbw:=hC.off
    refine wpOp_step hoj (fun K' hK=> ?_)
    rw [if_pos (by rfl)]
   rotate_left 1
   ·unfold Oper.wp
    simp [go_sem,ev,evF,hall,Oper.upon,m3]
    exact hK _ _ ⟨x,Xan nuL_apart ha rfl hun,hC.pure (by decide)⟩
   ·unfold Oper.wp
    simp [go_sem,ev,evF,hall,Oper.upon]
    refine (Hi.out w').mono ?_
    rintro r4 w4 ⟨rfl,hb4⟩
    exact hK _ _ ⟨x,Xan nuL_apart ha rfl hun,hC.step (hbw.trans (hb4.mono hbw.size)) (fun q=>q.elim (fun e=>absurd e (by decide)) (fun ⟨_,q⟩=>Xaa hb4 q)) (fun _=>trivial) (fun _=>trivial) (fun _=>trivial)⟩
   rotate_left 4
   ·unfold Oper.wp
    simp [go_sem,ev,evF,hall,Oper.upon,m1,m2,m4,m5]
    have ha:=ha.trans (Xav (L:=nuL n p c x) (M:=nuL n p c w'.heap.size) [7] rfl (fun j hne=>by
     rcases j with _|_|_|_|_|_|_|_|_|_|_|j<;>first|rfl|(exact absurd (by decide) hne)|simp) (List.forall_mem_cons.2 ⟨Xao hun,List.forall_mem_nil _⟩))
    exact hK _ _ ⟨w'.heap.size,Xan nuL_apart ha rfl hun,hC.step (hbw.trans (((Qb _ _).alloc (Qn _) _).mono hbw.size)) (fun _=>by rw [World.cell?_alloc_new];rfl) (fun _=>trivial) (fun _=>trivial) (fun _=>trivial)⟩
   ·have hcl1:=hC.f1 (by simpa using hall)
    have hrd:=Hcv.out w' x hcl1
    unfold Oper.wp
    simp [go_sem,ev,evF,hall,Oper.upon,hrd]
    exact hK _ _ ⟨x,Xan nuL_apart ha rfl hun,hC.pure (by decide)⟩
   ·unfold Oper.wp
    simp [go_sem,ev,evF,hall,Oper.upon,hpl2]
    exact hK _ _ ⟨x,Xan nuL_apart ha rfl hun,hC.pure (by decide)⟩
   all_goals
    unfold Oper.wp
    first
    |(simp [go_sem,ev,evF,hall,Oper.upon,m1,m2,m4,m5];exact hK _ _ ⟨x,Xan nuL_apart ha rfl hun,hC.pure (by decide)⟩)
    |(simp [go_sem,ev,evF,Oper.upon,m1,m2,m4,m5];exact hK _ _ ⟨x,Xan nuL_apart ha rfl hun,hC.pure (by decide)⟩)
  ·rintro x s' a' w2 hup ha hC
   rw [Xa1 _ _ _ _ (fun i hi=>by rw [Nat.zero_add];exact hup i (by simpa using hi))] at ha
   subst ha
   simp only [fillAll,Act.put,List.setIfInBounds_toArray,List.set_cons_succ,List.set_cons_zero]
   have hbw:=hC.off
   go_wp2
   go_ret
   exact ⟨Xo6 Hd.out.symm,hbw⟩
end Go.Proofs.YtjdednajelommaaGreatDoor
namespace Go.Proofs.YtjdednajelommaaGreatDoor
open Go.RowKit Lib
abbrev qaL (so:Option Addr) (ll sc n dy:Nat) (P T5:Bytes) (L1:List Ses) (x:(Option Addr × Nat) × Nat × Nat):List (Option Tmp × Value):=
 [(some 102,arcV 7 2 1 (.slice so ll sc)),(some 103,.int .i64 (n:Int)),(some 104,S P),(some 105,.int .i64 (n:Int)),(some 106,.int .u8 (dy:Int)),(some 107,.int .i64 (dy:Int)),(some 108,.int .i64 ((n:Int)+(dy:Int))),(some 109,S T5),(some 110,.agg #[.int .i64 5,S P,.slice none 0 0,S T5,.string ⟨#[]⟩]),(some 111,.slice (some ⟨x.2.1,0,none⟩) 1 1),(some 112,.tuple #[arcV 7 2 1 (.slice x.1.1 L1.length x.1.2),.int .i64 1,.int .i64 0]),(some 101,.tuple #[arcV 7 2 1 (.slice x.1.1 L1.length x.1.2),.int .i64 1,.int .i64 0]),(some 113,arcV 7 2 1 (.slice x.1.1 L1.length x.1.2)),(some 114,.int .i64 1),(some 115,.int .i64 0),(some 13,.pointer (some ⟨x.2.2,0,none⟩)),(none,undef),(some 14,.int .i64 1),(some 15,.int .i64 0)]
theorem qaL_apart {so:Option Addr} {ll sc n dy:Nat} {P T5:Bytes} {L1:List Ses} {x:(Option Addr × Nat) × Nat × Nat}:ApartF (qaL so ll sc n dy P T5 L1 x):=by
 unfold ApartF
 simp
theorem row_chg {J:IH} {W:World} {g:Nat} {k:Int} {P T:Bytes} (hw:Ok J W) (hg:W.heap[g]? =some (.cells #[.int .i64 k,S P,.slice none 0 0,S T,.string ⟨#[]⟩] 53 (0,0))) (hn:J g=none):
 ∃J',(∀b c,J b=some c→J' b=some c)∧Ext g J J'∧Ok J' W∧(∀b,b≠g→J' b=J b)∧RdS tChg J' (.slice (some ⟨g,0,none⟩) 1 1) [(⟨k,P,[],T,[]⟩:Chg)]:=
 one_row (T:=tChg) (x:=(⟨k,P,[],T,[]⟩:Chg)) (cs:= [.int .i64 k,S P,.slice none 0 0,S T,.string ⟨#[]⟩]) hw hg hn ⟨.slice none 0 0,rfl,RdS.nil _ _⟩
theorem sn_Write1 (J:IH) (hJ:Glob J) {n m:Nat} (L:List Ses) (h:ArcOk n m L) (hn:n+1≤150) (hm:m≤250) (vs:Value) (hvs:RdS tSes J vs L) (date k:Int) (P T:Bytes) (hk: -9223372036854775808≤k∧k≤9223372036854775807) (hP:P.length≤300) (hT:T.length≤300) (v:Value) (hr:RdS tChg J v [(⟨k,P,[],T,[]⟩:Chg)]) (W:World) (hW:Ok J W)
 {L2:List Ses} {cnt:Nat} {r q:Int} (hp:wrtP L date [(⟨k,P,[],T,[]⟩:Chg)]=(L2,cnt,r)) (hq:(cnt:Int)=q):
 Calls Tryz.prog 14 #[arcV 7 2 1 vs,.int .i64 date,v] W (fun e w'=> ∃vs' J',e= .returned (.tuple #[arcV 7 2 1 vs',.int .i64 q,.int .i64 r])∧Below W.heap.size W w'∧Ext W.heap.size J J'∧Ok J' w'∧RdS tSes J' vs' L2):=by
 have hc:∀c∈ [(⟨k,P,[],T,[]⟩:Chg)],c.Wf∧c.attrs.length≤1000000∧c.content.length≤1000:=fun c hc=>by
  rw [List.mem_singleton.1 hc]
  exact ⟨⟨hk.1,hk.2,Nat.le_trans hP (by omega),fun x hx=>absurd hx (by simp),Nat.le_trans hT (by omega),Nat.zero_le _⟩,Nat.zero_le _,Nat.zero_le _⟩
 have h9:=Xge J hJ 7 2 1 L h [(⟨k,P,[],T,[]⟩:Chg)] hn hm vs hvs date v hr hc W hW
 rw [hp] at h9
 refine h9.mono ?_
 rintro e w' ⟨vs',J',h1,h2⟩
 exact ⟨vs',J',by rw [h1,←hq],h2⟩
set_option maxRecDepth 100000 in
set_option maxHeartbeats 8000000 in
theorem law_SessionHolds (I:IH) (hI:Glob I) (v:Value) (l:List Bat) (hv:RdS tBat I v l) (hwf:∀b∈l,b.In) (a:Nat) (ha:a≤255) (dy:Nat) (hdy:dy≤255) (w:World) (hw:Ok I w):
 Calls Tryz.prog 9 #[v,.int .u8 (a:Int),.int .u8 (dy:Int)] w fun r w'=>r= .returned (.bool true)∧Below w.heap.size w w':=by
 have Haw:=Qh (fun J (hk:∀b c,I b=some c→J b=some c) w hw=>Xep J (hI.mono hk) w hw)
 have Hgr:=Qh (fun w hw=>Xg5 I v l hv w hw)
 have A0:=Qh (MAt.start hw)
 have HG:=Qh hI
 have Hv:=Qh hv
 obtain ⟨ao,cap,rfl,_,_,_⟩:=id hv
 cases hg:gr39 l
 case true=>
  have e1:gr39I l=1:=by rw [gr39I,hg];rfl
  rw [e1] at Hgr
  clear e1 hg hv hI
  go_enter Tryz.func9,Tryz.ntmps9
  go_wp2_with fail
  refine (Hgr.out _ A0.out.ok).mono ?_
  rintro e1 w1 ⟨rfl,hb1⟩
  have A1:=Qh (A0.out.quiet hb1)
  clear hb1 A0
  go_wp2_with fail
  refine (Haw.out I (fun _ _ h=>h) _ A1.out.ok).mono ?_
  rintro e2 w2 ⟨rfl,hb2⟩
  have A2:=Qh (A1.out.quiet hb2)
  clear hb2 A1
  go_wp2
  go_ret
  exact ⟨rfl,A2.out.bel⟩
 have e1:gr39I l=0:=by rw [gr39I,hg];rfl
 rw [e1] at Hgr
 obtain ⟨hsm,htot,hl4⟩:=Xm8 hwf hg
 have Hwt:=Qh (fun W hW=>Xhf I hI _ l hv hsm (by omega) (by omega) W hW)
 have HA:=Qh (Xnl (l:=l) (fun b hb c h=>by have:=(hsm b hb c h).content;omega) (by omega) (by omega))
 obtain ⟨L,hL⟩:∃L,wrtsP [] l=L:=⟨_,rfl⟩
 rw [hL] at Hwt HA
 have hAl:=HA.out.len
 clear e1 hg hsm hL hwf hv hI
 go_enter Tryz.func9,Tryz.ntmps9
 go_wp2_with fail
 refine (Hgr.out _ A0.out.ok).mono ?_
 rintro e1 w1 ⟨rfl,hb1⟩
 have A1:=Qh (A0.out.quiet hb1)
 clear hb1 A0
 go_wp2_with fail
 refine (Hwt.out w1 A1.out.ok).mono ?_
 rintro e2 w2 ⟨vs,J2,rfl,hb2,hx2,hok2,hrd2⟩
 obtain ⟨so,sc,rfl,_,_,_⟩:=id hrd2
 have A2:=Qh (A1.out.ext hb2 hx2 hok2)
 have hf2:J2 w2.heap.size=none:=hok2.fresh (Qn _)
 have HL:=Qh hrd2
 clear hb2 hx2 hok2 hrd2 A1 Hwt Hgr
 go_upto_region 4 with (
  refine Xab rfl rfl 30 _ _ rfl w2.heap.size 0 [.int .u32 7,.int .i64 2,.int .i64 1,.slice so L.length sc] (arcV 7 2 1 (.slice so L.length sc)) (by simp [Act.eval]) (by simp [Act.eval]) (by rfl) zeroA 30 (heap_alloc_new _ _) (by simp) (by kernel_rfl) (by simp [Value.oneCell']) #[.int .u32 7,.int .i64 2,.int .i64 1,.slice so L.length sc] (by rfl) ?_
  intro w3 hg3 hr3)
 have hb3:Below w2.heap.size w2 w3:=((Qb _ _).alloc (Qn _) _).grown hg3 (by simp) (fun k e=>by injection e with e;omega)
 have A3:=Qh (A2.out.quiet hb3)
 obtain ⟨BA,hBA⟩:∃B,B=w2.heap.size:=⟨_,rfl⟩
 have hBAw:w.heap.size≤BA:=by have:=A2.out.size;omega
 rw [←hBA] at hr3 hf2 ⊢
 have X3:=Qh (show ArB J2 w3 BA 7 2 1 (.slice so L.length sc) L from ⟨hf2,HL.out,hr3⟩)
 have z3:=(Xag X3.out.row).2.2.2
 clear hg3 hr3 hb3 A2 hf2 hBA
 rcases Xb0 L with hnil|⟨kk,hk,hlen,hlast⟩
 ·subst hnil
  go_wp2_with fail
  refine (Haw.out J2 A3.out.keep _ A3.out.ok).mono ?_
  rintro e4 w4 ⟨rfl,hb4⟩
  have A4:=Qh (A3.out.quiet hb4)
  clear hb4 A3
  go_wp2
  go_ret
  exact ⟨rfl,A4.out.bel⟩
 have Hn:=Qh (show lastDt L=L[kk].date by unfold lastDt;rw [hlast])
 obtain ⟨x,ve,b,off,cap',hlx,hvv,hat,hve⟩:=Xfn HL.out A3.out.ok kk hk
 cases hvv
 obtain ⟨c0,c1,c2,c3,c4,c5⟩:=hat
 rw [hlx] at Hn
 obtain ⟨n,hn⟩:∃n:Nat,x.date=(n:Int):=⟨x.date.toNat,by have:=(Xrc HA.out).1;rw [Hn.out] at this;omega⟩
 rw [hn] at c1 Hn
 have m1:IntKind.i64.wrap (kk:Int)=(kk:Int):=IntWalk.i64_in _ (by omega)
 have q1:(((kk+1:Nat):Int)==0)=false:=by simp;omega
 have i1:(kk:Int)<((kk+1:Nat):Int):=by omega
 rw [hlen] at z3
 clear hlx hlast hve hn hlen
 go_upto_region 7 with fail
 clear c0 c1 c2 c3 c4 c5 m1 q1 i1 z3
 obtain ⟨z0,z1,z2,z3⟩:=Xag X3.out.row
 obtain ⟨dO,hdO⟩:∃d,openP L (n:Int)=d:=⟨_,rfl⟩
 have hB:=Xi7 J2 (HG.out.mono A3.out.keep) 7 2 1 L HA.out (by omega) (by omega) _ HL.out (n:Int) w3 A3.out.ok
 rw [Xnd (by rw [←Hn.out];exact Xok HA.out (by omega)),hdO] at hB
 dsimp only at hB
 have HB:=Qh hB
 have HdO:=Qh hdO
 clear hB hdO
 go_wp2_with fail
 refine (HB.out).mono ?_
 rintro e4 w4 ⟨ve4,vk4,vt4,vh4,J4,rfl,hb4,hx4,hok4,hrd4⟩
 obtain ⟨ae4,ce4,rfl,_,_,_⟩:=id hrd4.ents
 obtain ⟨ak4,ck4,rfl,_,_,_⟩:=id hrd4.cks
 obtain ⟨at4,ct4,rfl,_,_,_⟩:=id hrd4.tree
 obtain ⟨ah4,ch4,rfl,_,_,_⟩:=id hrd4.holds
 go_upto_region 8 with (
  refine Xab rfl rfl 46 _ _ rfl w4.heap.size 0 (drCs dO (.slice ae4 dO.ents.length ce4) (.slice ak4 dO.sto.cks.length ck4) (.slice at4 dO.tree.length ct4) (.slice ah4 dO.holds.length ch4)) (drV dO (.slice ae4 dO.ents.length ce4) (.slice ak4 dO.sto.cks.length ck4) (.slice at4 dO.tree.length ct4) (.slice ah4 dO.holds.length ch4)) (by simp [Act.eval]) (by simp [Act.eval]) (by rfl) zeroD 46 (heap_alloc_new _ _) (by simp) (by kernel_rfl) (by simp [Value.oneCell']) (drCs dO (.slice ae4 dO.ents.length ce4) (.slice ak4 dO.sto.cks.length ck4) (.slice at4 dO.tree.length ct4) (.slice ah4 dO.holds.length ch4)).toArray (by rfl) ?_
  intro w5 hg5 hr5)
 have hb5:Below w4.heap.size w4 w5:=((Qb _ _).alloc (Qn _) _).grown hg5 (by simp) (fun k e=>by injection e with e;omega)
 have hf4:J4 w4.heap.size=none:=hok4.fresh (Qn _)
 have A5:=Qh ((A3.out.ext hb4 hx4 hok4).quiet hb5)
 have X5:=Qh ((X3.out.ext A3.out.ok hb4 hx4).quiet hb5)
 have D5:=Qh (show WrB J4 w5 w4.heap.size dO _ _ _ _ from ⟨A5.out.ok,hf4,hrd4,hr5⟩)
 obtain ⟨BD,hBD⟩:∃B,B=w4.heap.size:=⟨_,rfl⟩
 have hBDw:BA<BD:=by have:=X3.out.lt;have:=hb4.size;omega
 rw [←hBD] at D5 ⊢
 have b7:=(drB_row (d:=dO) D5.out.row).c7
 have b8:=(drB_row (d:=dO) D5.out.row).c8
 clear hb4 hx4 hok4 hrd4 hg5 hr5 hb5 hf4 A3 X3 HB z0 z1 z2 z3 hBD
 by_cases t0:dO.tree.length=0
 ·have q1:(((dO.tree.length:Nat):Int)==0)=true:=by rw [t0];rfl
  clear t0
  go_wp2_with fail
  refine (Haw.out J4 A5.out.keep _ A5.out.ok).mono ?_
  rintro e6 w6 ⟨rfl,hb6⟩
  have A6:=Qh (A5.out.quiet hb6)
  clear hb6 A5
  go_wp2
  go_ret
  exact ⟨rfl,A6.out.bel⟩
 have q1:(((dO.tree.length:Nat):Int)==0)=false:=by rw [beq_eq_false_iff_ne];omega
 by_cases t1:dO.holds.length=0
 case neg=>
  have q2:decide ((0:Int)<(dO.holds.length:Int))=true:=Qt (by omega)
  have q2b:decide (0<dO.holds.length)=true:=Qt (by omega)
  have q2c:0<dO.holds.length:=by omega
  clear t1
  go_wp2_with fail
  refine (Haw.out J4 A5.out.keep _ A5.out.ok).mono ?_
  rintro e6 w6 ⟨rfl,hb6⟩
  have A6:=Qh (A5.out.quiet hb6)
  clear hb6 A5
  go_wp2
  go_ret
  exact ⟨rfl,A6.out.bel⟩
 have q2:decide ((0:Int)<(dO.holds.length:Int))=false:=Qf (by omega)
 have q2b:decide (0<dO.holds.length)=false:=Qf (by omega)
 by_cases t2:(999999000:Int)<(n:Int)
 ·have q3:decide ((999999000:Int)<(n:Int))=true:=Qt t2
  clear t2
  go_wp2_with fail
  refine (Haw.out J4 A5.out.keep _ A5.out.ok).mono ?_
  rintro e6 w6 ⟨rfl,hb6⟩
  have A6:=Qh (A5.out.quiet hb6)
  clear hb6 A5
  go_wp2
  go_ret
  exact ⟨rfl,A6.out.bel⟩
 have q3:decide ((999999000:Int)<(n:Int))=false:=Qf t2
 obtain ⟨i,hi⟩:∃i,a%dO.tree.length=i:=⟨_,rfl⟩
 have hit:i<dO.tree.length:=by rw [←hi];exact Nat.mod_lt _ (by omega)
 obtain ⟨e,va,vx,bT,oT,cap2,hle,hvv,⟨d0,d1,d2,d3,d4,d5,d6⟩,_,_⟩:=Xeu D5.out.rd.tree A5.out.ok i hit
 have Ht:=Qh t1
 cases hvv
 have r1:((a:Int).tmod (dO.tree.length:Int))=(i:Int):=by rw [←hi];rfl
 have r2:((a:Int)%(dO.tree.length:Int))=(i:Int):=by rw [←hi];rfl
 have r3:IntKind.i64.wrap (i:Int)=(i:Int):=IntWalk.i64_in _ (by have:=D5.out.rd.tree.len_le;omega)
 have r4:IntKind.i64.wrap (a:Int)=(a:Int):=IntWalk.i64_in _ (by omega)
 have r5:¬dO.tree.length=0:=t0
 have B7:=Qh b7
 have D0:=Qh d0
 have D1:=Qh d1
 clear t0 t1 d2 d3 d4 d5 d6 d0 hi
 have b7:=cell_regrown b7
 have d1:=cell_regrown d1
 go_wp2_with fail
 refine wp_region_quiet_below (by kernel_rfl) (by kernel_rfl) ?_
 repeat (go_big_quiet_step ((fail)))
 refine wpQuiet_nil ?_
 intro w6 hwq
 have hb6:Below (w5).heap.size (w5) w6:=by
  obtain ⟨pq,rfl⟩:=hwq
  exact below_regrown _ _ _
 clear hwq
 have A6:=Qh (A5.out.quiet hb6)
 have X6:=Qh (X5.out.quiet hb6)
 have D6:=Qh (D5.out.below hb6)
 have hge:=Qh (show dO.tree[i]=e from hle)
 have c7:=cell_regrown (Xaa hb6 B7.out)
 have c0:=cell_regrown (Xaa hb6 D0.out)
 clear b7 d1 hb6 A5 X5 D5 hle B7 D0 D1
 go_wp2_with fail
 refine wp_region_quiet_below (by kernel_rfl) (by kernel_rfl) ?_
 repeat (go_big_quiet_step ((fail)))
 refine wpQuiet_nil ?_
 intro w7 hwq
 have hb7:Below (w6).heap.size (w6) w7:=by
  obtain ⟨pq,rfl⟩:=hwq
  exact below_regrown _ _ _
 clear hwq
 have A7:=Qh (A6.out.quiet hb7)
 have X7:=Qh (X6.out.quiet hb7)
 have D7:=Qh (D6.out.below hb7)
 clear c7 c0 hb7 A6 X6 D6 q1 q2 q2b q3 r1 r2 r3 r4 r5
 have hmem:e∈(openP L (n:Int)).tree:=by rw [HdO.out,←hge.out];exact List.getElem_mem hit
 have hT:=HA.out.sinAll.ok.tree
 have hent:=hT.ent e hmem
 have hkd:=hT.kind e hmem
 have hpl:=(Xd4 hent).1
 obtain ⟨s1,s2,w1p,w2p,w3p,w4p,b5p,g6p⟩:=holds_plain HA.out (by omega) (by omega) Hn.out.symm (by omega) (by omega) hmem (by rw [HdO.out];exact List.eq_nil_of_length_eq_zero Ht.out) hdy
 obtain ⟨P,hP⟩:∃P,e.path=P:=⟨_,rfl⟩
 obtain ⟨K,hK⟩:∃K,e.kind=K:=⟨_,rfl⟩
 rw [hP,hK] at w3p
 rw [hP] at w1p w2p w4p g6p hpl
 rw [hK] at hkd
 rw [Int.toNat_natCast] at w1p
 have hnum:∀W,Calls Tryz.prog 32 #[.int .i64 ((n:Int)+(dy:Int))] W fun r w'=>r= .returned (S (decDigits (n+dy)))∧Below W.heap.size W w':=fun W=>by
  have h:=l39_number (n+dy) (by omega) W
  rwa [Int.natCast_add] at h
 have hdl:(decDigits (n+dy)).length≤20:=by rw [decDigits_length];exact Xim _ _ (by omega) (by omega)
 obtain ⟨T5,hT5⟩:∃T,decDigits (n+dy)=T:=⟨_,rfl⟩
 rw [hT5] at hnum hdl w1p
 have hA1:=Xj3 HA.out (date:=(n:Int)) (l:= [(⟨5,P,[],T5,[]⟩:Chg)]) (by simp;omega) (by omega) (fun c hc=>by rw [List.mem_singleton.1 hc];exact Nat.zero_le _)
 rw [w1p] at hA1
 obtain ⟨L1,hL1⟩:∃L1,L++ [s1]=L1:=⟨_,rfl⟩
 have hA1:ArcOk (totC l+1) (l.length+1) L1:=by rw [←hL1];exact hA1
 rw [hL1] at w1p w2p w3p w4p b5p g6p
 have hA2:=Xj3 hA1 (date:=(n:Int)+(dy:Int)+1) (l:= [(⟨4,P,[],[],[]⟩:Chg)]) (by simp;omega) (by omega) (fun c hc=>by rw [List.mem_singleton.1 hc];exact Nat.zero_le _)
 rw [w4p] at hA2
 obtain ⟨L2,hL2⟩:∃L2,L1++ [s2]=L2:=⟨_,rfl⟩
 have hA2:ArcOk (totC l+2) (l.length+2) L2:=by rw [←hL2];exact hA2
 rw [hL2] at w4p b5p g6p
 have HA1:=Qh hA1
 have HA2:=Qh hA2
 have W1P:=Qh w1p
 have W2P:=Qh w2p
 have W3P:=Qh w3p
 have W4P:=Qh w4p
 have B5P:=Qh b5p
 have G6P:=Qh g6p
 have Hnum:=Qh hnum
 have Hpl:=Qh hpl
 have Hkd:=Qh hkd
 have Hdl:=Qh hdl
 have Hw5:=Qh (fun J6 (hk':∀b c,J4 b=some c→J6 b=some c) v' (hr':RdS tChg J6 v' [(⟨5,P,[],T5,[]⟩:Chg)]) W (hok:Ok J6 W)=>sn_Write1 J6 (HG.out.mono (fun b c hc=>hk' b c (A7.out.keep b c hc))) L HA.out (by omega) (by omega) _ (X7.out.rd.mono hk') (n:Int) 5 P T5 (by omega) Hpl.out (by have:=Hdl.out;omega) v' hr' W hok W1P.out (q:=1) rfl)
 obtain ⟨z0,z1,z2,z3⟩:=Xag X7.out.row
 have g1:IntKind.i64.wrap (dy:Int)=(dy:Int):=IntWalk.i64_in _ (by omega)
 have g2:IntKind.i64.wrap ((n:Int)+(dy:Int))=(n:Int)+(dy:Int):=IntWalk.i64_in _ (by omega)
 clear hmem hT hent hkd hpl w1p w2p w3p w4p b5p g6p hnum hdl hT5 hA1 hA2 hL1 hL2 hge Ht HdO Hn
 go_wp2_with fail
 refine Xah (X:=(Option Addr × Nat) × Nat × Nat) (qaL (some ⟨b,off,none⟩) L.length sc n dy P T5 L1) (RgE w7 10 240 9 241 15 242 233 243 (fun x w=>x.2.2<w.heap.size∧J4 x.2.2=none∧x.2.1<w.heap.size∧J4 x.2.1=none∧x.2.2≠x.2.1) (fun x w=> ∃J',Ext w7.heap.size J4 J'∧Ok J' w∧RdS tSes J' (.slice x.1.1 L1.length x.1.2) L1∧J' x.2.2=none) (fun x w=>w.heap[x.2.1]? =some (.cells #[.int .i64 5,S P,.slice none 0 0,S T5,.string ⟨#[]⟩] 53 (0,0))∧w7.heap.size≤x.2.1) (fun x w=>w.heap[x.2.2]? =some (.cells zeroA 30 (0,0))∧w7.heap.size≤x.2.2) (fun _ _=>True) (fun x w=>(∃J',Ext w7.heap.size J4 J'∧Ok J' w∧RdS tSes J' (.slice x.1.1 L1.length x.1.2) L1∧J' x.2.2=none)∧(w.heap[x.2.2]? =some (.cells zeroA 30 (0,0))∧w7.heap.size≤x.2.2)) (fun x=>x.2.2) 30 16 220 221 (fun x=> #[.int .u32 7,.int .i64 2,.int .i64 1,.slice x.1.1 L1.length x.1.2]) (fun x=> #[.int .u32 7,.int .i64 2,.int .i64 1,.slice x.1.1 L1.length x.1.2]) (fun x=> #[.int .u32 7,.int .i64 2,.int .i64 1,.slice x.1.1 L1.length x.1.2])) (by kernel_rfl) (by kernel_rfl) ?_ ?_ ?_
 ·exact ⟨(default,BD,BA),RgE.start _ _ ⟨X7.out.lt,X7.out.no,D7.out.lt,D7.out.no,Nat.ne_of_lt hBDw⟩⟩
 ·rintro x s' a' w' i hsz hcl ha hC hi
  obtain ⟨hun,oi,hoi,hall⟩:=mem_ready.1 hi
  have ev:=Xcv qaL_apart ha
  have hlt:=Xcy hun
  rcases i with _|_|_|_|_|_|_|_|_|_|_|_|_|_|_|_|_|_|_|i
  rotate_left 19
  ·simp at hoi
  all_goals
   have hoj:=hoi
   simp at hoi
   subst hoi
   simp [Region.binds] at hall
   try have hl:=Xas 6 16 hcl (by decide +kernel) hun
   try have hbw:=hC.off hl
   try have z0:=Xaa hbw z0
   try have z1:=Xaa hbw z1
   try have z2:=Xaa hbw z2
   try have z3:=Xaa hbw z3
   refine wpOp_step hoj (fun K' hK=> ?_)
   rw [if_pos (by rfl)]
  rotate_left 7
  ·unfold Oper.wp
   simp [go_sem,ev,evF,hall,Oper.upon]
   refine (Hnum.out w').mono ?_
   rintro r4 w4 ⟨rfl,hb4⟩
   exact hK _ _ ⟨x,Xan qaL_apart ha rfl hun,hC.step hl (hbw.trans (hb4.mono hbw.size)) (by decide) (fun h=>⟨Nat.lt_of_lt_of_le h.1 hb4.size,h.2.1,Nat.lt_of_lt_of_le h.2.2.1 hb4.size,h.2.2.2.1,h.2.2.2.2⟩) (fun h _=>h.elim (fun e=>absurd e (by decide)) (fun ⟨_,_,q⟩=>(q.elim fun J9 h9=>⟨J9,h9.1,h9.2.1.below (Qn _) hb4,h9.2.2⟩))) (fun h _=>h.elim (fun e=>absurd e (by decide)) (fun ⟨_,_,q⟩=>⟨(hb4.block _ (Array.getElem?_eq_some_iff.1 q.1).1).trans q.1,q.2⟩)) (fun h _=>h.elim (fun e=>absurd e (by decide)) (fun ⟨_,_,q⟩=>⟨(hb4.block _ (Array.getElem?_eq_some_iff.1 q.1).1).trans q.1,q.2⟩)) (fun _ _=>trivial) hlt⟩
  rotate_left 1
  ·unfold Oper.wp
   simp [go_sem,ev,evF,hall,Oper.upon,z0,z1,z2,z3,g1,g2]
   have ha:=ha.trans (Xav (L:=qaL (some ⟨b,off,none⟩) L.length sc n dy P T5 L1 x) (M:=qaL (some ⟨b,off,none⟩) L.length sc n dy P T5 L1 (x.1,w'.heap.size,x.2.2)) [9] rfl (fun j hne=>by
    rcases j with _|_|_|_|_|_|_|_|_|_|_|_|_|_|_|_|_|_|_|j<;>first|rfl|(exact absurd (by decide) hne)|simp) (List.forall_mem_cons.2 ⟨Xao hun,List.forall_mem_nil _⟩))
   exact hK _ _ ⟨(x.1,w'.heap.size,x.2.2),Xan qaL_apart ha rfl hun,hC.step hl (hbw.trans (((Qb _ _).alloc (Qn _) _).mono hbw.size)) (by decide) (fun h=>⟨Nat.lt_of_lt_of_le h.1 (by simp),h.2.1,by simp,A7.out.ok.fresh hbw.size,Nat.ne_of_lt h.1⟩) (fun h _=>h.elim (fun e=>absurd e (by decide)) (fun ⟨_,_,q⟩=>(q.elim fun J9 h9=>⟨J9,h9.1,h9.2.1.below (Qn _) ((Qb w'.heap.size w').alloc (Qn _) (.cells #[.int .i64 5,S P,.slice none 0 0,S T5,.string ⟨#[]⟩] 53)),h9.2.2⟩))) (fun _ _=>⟨heap_alloc_new _ _,hbw.size⟩) (fun h _=>h.elim (fun e=>absurd e (by decide)) (fun ⟨_,_,q⟩=>⟨(((Qb w'.heap.size w').alloc (Qn _) (.cells #[.int .i64 5,S P,.slice none 0 0,S T5,.string ⟨#[]⟩] 53)).block _ (Array.getElem?_eq_some_iff.1 q.1).1).trans q.1,q.2⟩)) (fun _ _=>trivial) hlt⟩
  ·have h2:=hC.f2 (by first|simpa using hall|simp [hall]) (Xak (by simp [hsz])) hl
   have h0:=hC.inv hl
   obtain ⟨J6,hk6,_,hok6,hne6,hr6⟩:=row_chg (A7.out.ok.below (Qn _) hbw) h2.1 h0.2.2.2.1
   unfold Oper.wp
   simp [go_sem,ev,evF,hall,Oper.upon]
   refine (Hw5.out J6 hk6 _ hr6 w' hok6).mono ?_
   rintro r4 w4 ⟨v7,J7,rfl,hb4,hx7,hok7,hr7⟩
   obtain ⟨a7,k7,rfl,_,_,_⟩:=id hr7
   have ha:=ha.trans (Xav (L:=qaL (some ⟨b,off,none⟩) L.length sc n dy P T5 L1 x) (M:=qaL (some ⟨b,off,none⟩) L.length sc n dy P T5 L1 ((a7,k7),x.2)) [10,11,12] rfl (fun j hne=>by
    rcases j with _|_|_|_|_|_|_|_|_|_|_|_|_|_|_|_|_|_|_|j<;>first|rfl|(exact absurd (by decide) hne)|simp) (List.forall_mem_cons.2 ⟨Xao hun,List.forall_mem_cons.2 ⟨Xas 6 11 hcl (by kernel_rfl) hun,List.forall_mem_cons.2 ⟨Xas 6 12 hcl (by kernel_rfl) hun,List.forall_mem_nil _⟩⟩⟩))
   exact hK _ _ ⟨((a7,k7),x.2),Xan qaL_apart ha rfl hun,hC.step hl (hbw.trans (hb4.mono hbw.size)) (by decide) (fun h=>⟨Nat.lt_of_lt_of_le h.1 hb4.size,h.2.1,Nat.lt_of_lt_of_le h.2.2.1 hb4.size,h.2.2.2.1,h.2.2.2.2⟩) (fun _ _=>⟨J7,fun b hb=>(hx7 b (Nat.lt_of_lt_of_le hb hbw.size)).trans (hne6 b (Nat.ne_of_lt (Nat.lt_of_lt_of_le hb h2.2))),hok7,hr7,(hx7 _ h0.1).trans ((hne6 _ h0.2.2.2.2).trans h0.2.1)⟩) (fun h _=>h.elim (fun e=>absurd e (by decide)) (fun ⟨_,_,q⟩=>⟨(hb4.block _ (Array.getElem?_eq_some_iff.1 q.1).1).trans q.1,q.2⟩)) (fun h _=>h.elim (fun e=>absurd e (by decide)) (fun ⟨_,_,q⟩=>⟨(hb4.block _ (Array.getElem?_eq_some_iff.1 q.1).1).trans q.1,q.2⟩)) (fun _ _=>trivial) hlt⟩
  rotate_left 4
  ·unfold Oper.wp
   simp [go_sem,ev,evF,hall,Oper.upon,z0,z1,z2,z3,g1,g2]
   have ha:=ha.trans (Xav (L:=qaL (some ⟨b,off,none⟩) L.length sc n dy P T5 L1 x) (M:=qaL (some ⟨b,off,none⟩) L.length sc n dy P T5 L1 (x.1,x.2.1,w'.heap.size)) [15] rfl (fun j hne=>by
    rcases j with _|_|_|_|_|_|_|_|_|_|_|_|_|_|_|_|_|_|_|j<;>first|rfl|(exact absurd (by decide) hne)|simp) (List.forall_mem_cons.2 ⟨Xao hun,List.forall_mem_nil _⟩))
   exact hK _ _ ⟨(x.1,x.2.1,w'.heap.size),Xan qaL_apart ha rfl hun,hC.step hl (hbw.trans (((Qb _ _).alloc (Qn _) _).mono hbw.size)) (by decide) (fun h=>⟨by simp,A7.out.ok.fresh hbw.size,Nat.lt_of_lt_of_le h.2.2.1 (by simp),h.2.2.2.1,(Nat.ne_of_lt h.2.2.1).symm⟩) (fun h _=>h.elim (fun e=>absurd e (by decide)) (fun ⟨_,_,q⟩=>(q.elim fun J9 h9=>⟨J9,h9.1,h9.2.1.below (Qn _) ((Qb w'.heap.size w').alloc (Qn _) (.cells zeroA 30)),h9.2.2.1,h9.2.1.fresh (Qn _)⟩))) (fun h _=>h.elim (fun e=>absurd e (by decide)) (fun ⟨_,_,q⟩=>⟨(((Qb w'.heap.size w').alloc (Qn _) (.cells zeroA 30)).block _ (Array.getElem?_eq_some_iff.1 q.1).1).trans q.1,q.2⟩)) (fun _ _=>⟨heap_alloc_new _ _,hbw.size⟩) (fun _ _=>trivial) hlt⟩
  ·have hrow:w'.heap[x.2.2]? =some (.cells _ 30 (0,0)):=(hC.f3 (by first|simpa using hall|simp [hall]) (Xak (by simp [hsz])) hl).1
   refine Xaj 30 _ _ rfl (x.2.2) 0 [.int .u32 7,.int .i64 2,.int .i64 1,.slice x.1.1 L1.length x.1.2] (arcV 7 2 1 (.slice x.1.1 L1.length x.1.2)) (by simp [Act.eval,ev,evF,hall]) (by simp [Act.eval,ev,evF,hall]) (by rfl) _ _ hrow (by simp) (by kernel_rfl) (by simp [Value.oneCell']) ?_
   exact hK _ _ ⟨x,Xad (d:=none) (v:=undef) qaL_apart ha rfl hun,hC.put1 hun ⟨hC.f1 (by first|simpa using hall|simp [hall]) (Xak (by simp [hsz])) hl,hC.f3 (by first|simpa using hall|simp [hall]) (Xak (by simp [hsz])) hl⟩ (Xak (by simp [hsz])) (Xak (by simp [hsz])) (by decide) hrow (by rfl)⟩
  all_goals
   unfold Oper.wp
   first
   |(simp [go_sem,ev,evF,hall,Oper.upon,z0,z1,z2,z3,g1,g2];exact hK _ _ ⟨x,Xan qaL_apart ha rfl hun,hC.pure (by decide)⟩)
   |(simp [go_sem,ev,evF,Oper.upon,z0,z1,z2,z3,g1,g2];exact hK _ _ ⟨x,Xan qaL_apart ha rfl hun,hC.pure (by decide)⟩)
 ·rintro x s' a' w8 hup ha hC
  obtain ⟨wb,hbW,hFin,hgr,hrow⟩:=hC.on (hup 16 (by decide))
  simp only [ite_self] at hrow
  rw [Xa1 _ _ _ _ (fun i hi=>by rw [Nat.zero_add];exact hup i (by simpa using hi))] at ha
  subst ha
  simp only [fillAll,Act.put,List.setIfInBounds_toArray,List.set_cons_succ,List.set_cons_zero]
  obtain ⟨⟨a8,k8⟩,g8,BX⟩:=x
  dsimp only at hFin hgr hrow ⊢
  obtain ⟨⟨J9,hx9,hok9,hr9,hn9⟩,hbox,hbl⟩:=hFin
  have A8:=Qh ((A7.out.ext hbW hx9 hok9).own hgr hn9 (by have:=A7.out.size;omega))
  have X8:=Qh (show ArB J9 w8 BX 7 2 1 (.slice a8 L1.length k8) L1 from ⟨hn9,hr9,hrow⟩)
  have HTl:=Qh (fun (T:Bytes) (h:T.length≤1)=>(by omega:T.length≤300))
  have g3:IntKind.i64.wrap ((n:Int)+(dy:Int)+1)=(n:Int)+(dy:Int)+1:=IntWalk.i64_in _ (by omega)
  clear hbW hgr hrow hx9 hok9 hr9 hbox hbl hn9 hC hup A7 X7 D7 Hw5 Hnum W1P z0 z1 z2 z3 Hdl
  have hc10:Below w8.heap.size w8 (w8.alloc (.cells #[.int .i64 4,S P,.slice none 0 0,S [],.string ⟨#[]⟩] 53)):=(Qb _ _).alloc (Qn _) _
  obtain ⟨K10,hk10,_,ho10,hne10,hq10⟩:=row_chg (k:=4) (P:=P) (T:= []) (A8.out.past (.cells #[.int .i64 4,S P,.slice none 0 0,S [],.string ⟨#[]⟩] 53)).ok (heap_alloc_new w8 _) (A8.out.ok.fresh (Qn _))
  have B10:=Qh (show MAt I w K10 (w8.alloc (.cells #[.int .i64 4,S P,.slice none 0 0,S [],.string ⟨#[]⟩] 53)) from ⟨ho10,fun b c h=>hk10 b c (A8.out.keep b c h),(A8.out.past _).bel⟩)
  have Y10:=Qh (show ArB K10 (w8.alloc (.cells #[.int .i64 4,S P,.slice none 0 0,S [],.string ⟨#[]⟩] 53)) BX 7 2 1 (.slice a8 L1.length k8) L1 from ⟨(hne10 _ (Nat.ne_of_lt X8.out.lt)).trans X8.out.no,X8.out.rd.mono hk10,(X8.out.quiet hc10).row⟩)
  have HW10:=Qh (sn_Write1 K10 (HG.out.mono B10.out.keep) L1 HA1.out (by omega) (by omega) _ Y10.out.rd ((n:Int)+(dy:Int)) 4 P [] (by have:=Hkd.out;omega) Hpl.out (HTl.out [] (by first|(simp;done)|exact H6l.out)) _ hq10 _ ho10 W2P.out (q:=0) rfl)
  obtain ⟨z0,z1,z2,z3⟩:=Xag X8.out.row
  clear hk10 ho10 hne10 hq10 hc10
  go_wp2_with fail
  refine HW10.out.mono ?_
  rintro e10 w10 ⟨vs10,J10,rfl,hb10,hx10,hok10,hrd10⟩
  obtain ⟨so10,sc10,rfl,_,_,_⟩:=id hrd10
  have A10:=Qh (B10.out.ext hb10 hx10 hok10)
  have X10:=Qh (Y10.out.ext B10.out.ok hb10 hx10)
  have HR10:=Qh hrd10
  have hf10:J10 w10.heap.size=none:=hok10.fresh (Qn _)
  clear B10 Y10 HW10 hb10 hx10 hok10 hrd10 z0 z1 z2 z3 A8 X8
  go_upto_region 14 with (
   refine Xab rfl rfl 30 _ _ rfl w10.heap.size 0 [.int .u32 7,.int .i64 2,.int .i64 1,.slice so10 L1.length sc10] (arcV 7 2 1 (.slice so10 L1.length sc10)) (by simp [Act.eval]) (by simp [Act.eval]) (by rfl) zeroA 30 (heap_alloc_new _ _) (by simp) (by kernel_rfl) (by simp [Value.oneCell']) #[.int .u32 7,.int .i64 2,.int .i64 1,.slice so10 L1.length sc10] (by rfl) ?_
   intro w11 hg11 hr11)
  have hb11:Below w10.heap.size w10 w11:=((Qb _ _).alloc (Qn _) _).grown hg11 (by simp) (fun k e=>by injection e with e;omega)
  have A11:=Qh (A10.out.quiet hb11)
  have X11:=Qh (X10.out.quiet hb11)
  have V11:=Qh (show ArB J10 w11 w10.heap.size 7 2 1 (.slice so10 L1.length sc10) L1 from ⟨hf10,HR10.out,hr11⟩)
  clear A10 X10 HR10 hf10 hg11 hr11 hb11
  clear V11
  go_upto_region 15 with (
   refine Xab rfl rfl 53 _ _ rfl w11.heap.size 0 [.int .i64 K,S P,.slice none 0 0,S [120],.string ⟨#[]⟩] (.agg #[.int .i64 K,S P,.slice none 0 0,S [120],.string ⟨#[]⟩]) (by simp [Act.eval]) (by simp [Act.eval]) (by rfl) #[.int .i64 0,.string ⟨#[]⟩,.slice none 0 0,.string ⟨#[]⟩,.string ⟨#[]⟩] 53 (heap_alloc_new _ _) (by simp) (by kernel_rfl) (by simp [Value.oneCell']) #[.int .i64 K,S P,.slice none 0 0,S [120],.string ⟨#[]⟩] (by rfl) ?_
   intro w12 hg12 hr12)
  have hb12:Below w11.heap.size w11 w12:=((Qb _ _).alloc (Qn _) _).grown hg12 (by simp) (fun k e=>by injection e with e;omega)
  have A12:=Qh (A11.out.quiet hb12)
  have X12:=Qh (X11.out.quiet hb12)
  obtain ⟨BG,hBG⟩:∃B,B=w11.heap.size:=⟨_,rfl⟩
  have hfG:J10 BG=none:=A11.out.ok.fresh (by omega)
  have hBGw:BX<BG∧w.heap.size≤BG:=by have:=X11.out.lt;have:=A11.out.size;omega
  rw [←hBG] at hr12 ⊢
  have R12:=Qh hr12
  clear hg12 hr12 hb12 hBG A11 X11
  go_upto_if 133 with fail
  go_cut [] (fun wx=> ∃T6:Bytes,T6=(if K=3 then [120] else [])∧wx.heap[BG]? =some (.cells #[.int .i64 K,S P,.slice none 0 0,S T6,.string ⟨#[]⟩] 53 (0,0))∧MAt I w J10 wx∧ArB J10 wx BX 7 2 1 (.slice a8 L1.length k8) L1)
  case first=>
   by_cases h3:K=3
   ·have i3:(K != 3)=false:=by simpa using h3
    have HT:=Qh ((if_pos h3).symm:([120]:Bytes)=if K=3 then [120] else [])
    clear h3
    go_wp2_with fail
    go_meet
    exact ⟨[120],HT.out,R12.out,A12.out,X12.out⟩
   ·have i3:(K != 3)=true:=by simpa using h3
    have HT:=Qh ((if_neg h3).symm:([]:Bytes)=if K=3 then [120] else [])
    have hr0:=R12.out
    clear h3
    go_wp2_with (refine Xab rfl rfl 9 _ _ rfl BG 3 [S []] (S []) (by simp [Act.eval]) (by simp [Act.eval]) (by rfl) _ 53 hr0 (by simp) (by kernel_rfl) (by simp [Value.oneCell']) #[.int .i64 K,S P,.slice none 0 0,S [],.string ⟨#[]⟩] (by rfl) ?_
                 intro w13 hg13 hr13)
    go_meet
    exact ⟨[],HT.out,hr13,A12.out.own hg13 hfG hBGw.2,X12.out.own hg13 (Nat.ne_of_lt hBGw.1)⟩
  case rest=>
  obtain ⟨T6,hT6,hR,hA,hX⟩:=hcut
  have Ac:=Qh hA
  have Xc:=Qh hX
  have H6l:=Qh (show T6.length≤1 by rw [hT6];split<;>simp)
  have w3q:=W3P.out
  rw [←hT6] at w3q
  have W3Q:=Qh w3q
  have t0:wc.cell? ⟨BG,0,none⟩=some (.int .i64 K):=(cell_of_row _ _ 0 _ _ _ hR).trans rfl
  have t1:wc.cell? ⟨BG,1,none⟩=some (S P):=(cell_of_row _ _ 1 _ _ _ hR).trans rfl
  have t2:wc.cell? ⟨BG,2,none⟩=some (.slice none 0 0):=(cell_of_row _ _ 2 _ _ _ hR).trans rfl
  have t3:wc.cell? ⟨BG,3,none⟩=some (S T6):=(cell_of_row _ _ 3 _ _ _ hR).trans rfl
  have t4:wc.cell? ⟨BG,4,none⟩=some (.string ⟨#[]⟩):=(cell_of_row _ _ 4 _ _ _ hR).trans rfl
  clear hT6 hR hA hX w3q A12 X12 R12 W3P
  have hc14:Below wc.heap.size wc (wc.alloc (.cells #[.int .i64 K,S P,.slice none 0 0,S T6,.string ⟨#[]⟩] 53)):=(Qb _ _).alloc (Qn _) _
  obtain ⟨K14,hk14,_,ho14,hne14,hq14⟩:=row_chg (k:=K) (P:=P) (T:=T6) (Ac.out.past (.cells #[.int .i64 K,S P,.slice none 0 0,S T6,.string ⟨#[]⟩] 53)).ok (heap_alloc_new wc _) (Ac.out.ok.fresh (Qn _))
  have B14:=Qh (show MAt I w K14 (wc.alloc (.cells #[.int .i64 K,S P,.slice none 0 0,S T6,.string ⟨#[]⟩] 53)) from ⟨ho14,fun b c h=>hk14 b c (Ac.out.keep b c h),(Ac.out.past _).bel⟩)
  have Y14:=Qh (show ArB K14 (wc.alloc (.cells #[.int .i64 K,S P,.slice none 0 0,S T6,.string ⟨#[]⟩] 53)) BX 7 2 1 (.slice a8 L1.length k8) L1 from ⟨(hne14 _ (Nat.ne_of_lt Xc.out.lt)).trans Xc.out.no,Xc.out.rd.mono hk14,(Xc.out.quiet hc14).row⟩)
  have HW14:=Qh (sn_Write1 K14 (HG.out.mono B14.out.keep) L1 HA1.out (by omega) (by omega) _ Y14.out.rd ((n:Int)+(dy:Int)) K P T6 (by have:=Hkd.out;omega) Hpl.out (HTl.out T6 (by first|(simp;done)|exact H6l.out)) _ hq14 _ ho14 W3Q.out (q:=0) rfl)
  obtain ⟨z0,z1,z2,z3⟩:=Xag Xc.out.row
  clear hk14 ho14 hne14 hq14 hc14
  go_wp2_with fail
  refine HW14.out.mono ?_
  rintro e14 w14 ⟨vs14,J14,rfl,hb14,hx14,hok14,hrd14⟩
  obtain ⟨so14,sc14,rfl,_,_,_⟩:=id hrd14
  have A14:=Qh (B14.out.ext hb14 hx14 hok14)
  have X14:=Qh (Y14.out.ext B14.out.ok hb14 hx14)
  have HR14:=Qh hrd14
  have hf14:J14 w14.heap.size=none:=hok14.fresh (Qn _)
  clear B14 Y14 HW14 hb14 hx14 hok14 hrd14 z0 z1 z2 z3 Ac Xc
  go_upto_region 18 with (
   refine Xab rfl rfl 30 _ _ rfl w14.heap.size 0 [.int .u32 7,.int .i64 2,.int .i64 1,.slice so14 L1.length sc14] (arcV 7 2 1 (.slice so14 L1.length sc14)) (by simp [Act.eval]) (by simp [Act.eval]) (by rfl) zeroA 30 (heap_alloc_new _ _) (by simp) (by kernel_rfl) (by simp [Value.oneCell']) #[.int .u32 7,.int .i64 2,.int .i64 1,.slice so14 L1.length sc14] (by rfl) ?_
   intro w15 hg15 hr15)
  have hb15:Below w14.heap.size w14 w15:=((Qb _ _).alloc (Qn _) _).grown hg15 (by simp) (fun k e=>by injection e with e;omega)
  have A15:=Qh (A14.out.quiet hb15)
  have X15:=Qh (X14.out.quiet hb15)
  have V15:=Qh (show ArB J14 w15 w14.heap.size 7 2 1 (.slice so14 L1.length sc14) L1 from ⟨hf14,HR14.out,hr15⟩)
  clear A14 X14 HR14 hf14 hg15 hr15 hb15
  clear V15 t0 t1 t2 t3 t4
  have hc16:Below w15.heap.size w15 (w15.alloc (.cells #[.int .i64 4,S P,.slice none 0 0,S [],.string ⟨#[]⟩] 53)):=(Qb _ _).alloc (Qn _) _
  obtain ⟨K16,hk16,_,ho16,hne16,hq16⟩:=row_chg (k:=4) (P:=P) (T:= []) (A15.out.past (.cells #[.int .i64 4,S P,.slice none 0 0,S [],.string ⟨#[]⟩] 53)).ok (heap_alloc_new w15 _) (A15.out.ok.fresh (Qn _))
  have B16:=Qh (show MAt I w K16 (w15.alloc (.cells #[.int .i64 4,S P,.slice none 0 0,S [],.string ⟨#[]⟩] 53)) from ⟨ho16,fun b c h=>hk16 b c (A15.out.keep b c h),(A15.out.past _).bel⟩)
  have Y16:=Qh (show ArB K16 (w15.alloc (.cells #[.int .i64 4,S P,.slice none 0 0,S [],.string ⟨#[]⟩] 53)) BX 7 2 1 (.slice a8 L1.length k8) L1 from ⟨(hne16 _ (Nat.ne_of_lt X15.out.lt)).trans X15.out.no,X15.out.rd.mono hk16,(X15.out.quiet hc16).row⟩)
  have HW16:=Qh (sn_Write1 K16 (HG.out.mono B16.out.keep) L1 HA1.out (by omega) (by omega) _ Y16.out.rd ((n:Int)+(dy:Int)+1) 4 P [] (by have:=Hkd.out;omega) Hpl.out (HTl.out [] (by first|(simp;done)|exact H6l.out)) _ hq16 _ ho16 W4P.out (q:=1) rfl)
  obtain ⟨z0,z1,z2,z3⟩:=Xag X15.out.row
  clear hk16 ho16 hne16 hq16 hc16
  go_wp2_with fail
  refine HW16.out.mono ?_
  rintro e16 w16 ⟨vs16,J16,rfl,hb16,hx16,hok16,hrd16⟩
  obtain ⟨so16,sc16,rfl,_,_,_⟩:=id hrd16
  have A16:=Qh (B16.out.ext hb16 hx16 hok16)
  have X16:=Qh (Y16.out.ext B16.out.ok hb16 hx16)
  have HR16:=Qh hrd16
  have hf16:J16 w16.heap.size=none:=hok16.fresh (Qn _)
  clear B16 Y16 HW16 hb16 hx16 hok16 hrd16 z0 z1 z2 z3 A15 X15
  go_upto_region 19 with (
   refine Xab rfl rfl 30 _ _ rfl w16.heap.size 0 [.int .u32 7,.int .i64 2,.int .i64 1,.slice so16 L2.length sc16] (arcV 7 2 1 (.slice so16 L2.length sc16)) (by simp [Act.eval]) (by simp [Act.eval]) (by rfl) zeroA 30 (heap_alloc_new _ _) (by simp) (by kernel_rfl) (by simp [Value.oneCell']) #[.int .u32 7,.int .i64 2,.int .i64 1,.slice so16 L2.length sc16] (by rfl) ?_
   intro w17 hg17 hr17)
  have hb17:Below w16.heap.size w16 w17:=((Qb _ _).alloc (Qn _) _).grown hg17 (by simp) (fun k e=>by injection e with e;omega)
  have A17:=Qh (A16.out.quiet hb17)
  have X17:=Qh (X16.out.quiet hb17)
  have V17:=Qh (show ArB J16 w17 w16.heap.size 7 2 1 (.slice so16 L2.length sc16) L2 from ⟨hf16,HR16.out,hr17⟩)
  clear A16 X16 HR16 hf16 hg17 hr17 hb17
  obtain ⟨z0,z1,z2,z3⟩:=Xag V17.out.row
  obtain ⟨dZ,hdZ⟩:∃d,openP L2 ((n:Int)+(dy:Int)+1)=d:=⟨_,rfl⟩
  have hB:=Xi7 J16 (HG.out.mono A17.out.keep) 7 2 1 L2 HA2.out (by omega) (by omega) _ V17.out.rd ((n:Int)+(dy:Int)+1) w17 A17.out.ok
  rw [Xnd B5P.out,hdZ] at hB
  dsimp only at hB
  have HB:=Qh hB
  have hget:=G6P.out
  rw [hdZ] at hget
  have Hget:=Qh (show getE dZ.tree P=(zeroE,false) by unfold getE;rw [hget])
  clear hB hdZ hget
  go_wp2_with fail
  refine (HB.out).mono ?_
  rintro e18 w18 ⟨ve18,vk18,vt18,vh18,J18,rfl,hb18,hx18,hok18,hrd18⟩
  obtain ⟨ae18,ce18,rfl,_,_,_⟩:=id hrd18.ents
  obtain ⟨ak18,ck18,rfl,_,_,_⟩:=id hrd18.cks
  obtain ⟨at18,ct18,rfl,_,_,_⟩:=id hrd18.tree
  obtain ⟨ah18,ch18,rfl,_,_,_⟩:=id hrd18.holds
  go_upto_region 20 with (
   refine Xab rfl rfl 46 _ _ rfl w18.heap.size 0 (drCs dZ (.slice ae18 dZ.ents.length ce18) (.slice ak18 dZ.sto.cks.length ck18) (.slice at18 dZ.tree.length ct18) (.slice ah18 dZ.holds.length ch18)) (drV dZ (.slice ae18 dZ.ents.length ce18) (.slice ak18 dZ.sto.cks.length ck18) (.slice at18 dZ.tree.length ct18) (.slice ah18 dZ.holds.length ch18)) (by simp [Act.eval]) (by simp [Act.eval]) (by rfl) zeroD 46 (heap_alloc_new _ _) (by simp) (by kernel_rfl) (by simp [Value.oneCell']) (drCs dZ (.slice ae18 dZ.ents.length ce18) (.slice ak18 dZ.sto.cks.length ck18) (.slice at18 dZ.tree.length ct18) (.slice ah18 dZ.holds.length ch18)).toArray (by rfl) ?_
   intro w19 hg19 hr19)
  have hb19:Below w18.heap.size w18 w19:=((Qb _ _).alloc (Qn _) _).grown hg19 (by simp) (fun k e=>by injection e with e;omega)
  have hf18:J18 w18.heap.size=none:=hok18.fresh (Qn _)
  have A19:=Qh ((A17.out.ext hb18 hx18 hok18).quiet hb19)
  have D19:=Qh (show WrB J18 w19 w18.heap.size dZ _ _ _ _ from ⟨A19.out.ok,hf18,hrd18,hr19⟩)
  have b7:=(drB_row (d:=dZ) D19.out.row).c7
  have hGt:=Xuu J18 _ dZ.tree D19.out.rd.tree P w19 A19.out.ok
  rw [Hget.out] at hGt
  have HGt:=Qh hGt
  clear hb18 hx18 hok18 hrd18 hg19 hr19 hb19 hf18 A17 X17 V17 HB z0 z1 z2 z3 hGt
  go_wp2_with fail
  refine HGt.out.mono ?_
  rintro e20 w20 ⟨va20,vx20,rfl,hva,hvx,hb20⟩
  obtain ⟨oa,ca,rfl,_,_,_⟩:=id hva
  obtain ⟨ox,cx,rfl,_,_,_⟩:=id hvx
  have A20:=Qh (A19.out.quiet hb20)
  clear A19 D19 HGt b7 hb20 hva hvx
  go_upto_region 21 with (
   refine Xab rfl rfl 68 _ _ rfl w20.heap.size 0 (entCs zeroE (.slice oa zeroE.attrs.length ca) (.slice ox zeroE.exts.length cx)) (entV zeroE (.slice oa zeroE.attrs.length ca) (.slice ox zeroE.exts.length cx)) (by simp [Act.eval]) (by simp [Act.eval]) (by rfl) zeroRow 68 (heap_alloc_new _ _) (by simp) (by kernel_rfl) (by simp [Value.oneCell']) (entRow zeroE (.slice oa zeroE.attrs.length ca) (.slice ox zeroE.exts.length cx)) (by rfl) ?_
   intro w21 hg21 hr21)
  have hb21:Below w20.heap.size w20 w21:=((Qb _ _).alloc (Qn _) _).grown hg21 (by simp) (fun k e=>by injection e with e;omega)
  have A21:=Qh (A20.out.quiet hb21)
  clear hg21 hr21 hb21 A20
  go_wp2_with fail
  refine (Haw.out J18 A21.out.keep _ A21.out.ok).mono ?_
  rintro e22 w22 ⟨rfl,hb22⟩
  have A22:=Qh (A21.out.quiet hb22)
  clear hb22 A21
  go_wp2
  go_ret
  exact ⟨rfl,A22.out.bel⟩
end Go.Proofs.YtjdednajelommaaGreatDoor
