/-
  Walks and laws that the claim's theorem uses: texts Ext QuR QuZ, joined; comments out. Conditions: as each theorem says.
-/
import Derived.Test.YtmdfjnhfhidmhaaGreatDoorK41
set_option linter.all false
namespace Go.Proofs.YtmdfjnhfhidmhaaGreatDoor
open Go.RowKit
theorem SrcS.of_rd {α:Type} {T:Ty α} {I:IH} {w:World} {v:Value} {l:List α} (h:RdS T I v l) (hw:Ok I w) (hs:0<T.size):SrcS T I w v l:=by
 obtain ⟨ao,cap,xs,hv,_,_,hl,hc⟩:=h.cells hw hs
 refine ⟨ao,cap,xs,hv,hl,fun h0=> ?_⟩
 obtain ⟨b,off,arr,rfl,_,_,hcs⟩:=hc h0
 exact ⟨_,rfl,fun j u hu=>by rw [Addr.add_lit];exact hcs j u hu⟩
theorem ings_ok:∀ {rs:List Rqs} {s:Ing},AccsOk s.l→AccsOk (rs.foldl ingS s).l∧(rs.foldl ingS s).l.length=s.l.length∧(rs.foldl ingS s).es.length=s.es.length+rs.length
 | [],s,h=>⟨h,rfl,rfl⟩
 |r::rs,s,h=>by
  obtain ⟨h1,h2,h3⟩:=Xuh h r
  obtain ⟨k1,k2,k3⟩:=ings_ok (rs:=rs) h1
  exact ⟨k1,by rw [List.foldl_cons,k2,h2],by rw [List.foldl_cons,k3,h3,List.length_cons];omega⟩
theorem own_made {α:Type} {T:Ty α} {E:TypeId} {I:IH} (W:World):OwnS T E I (W.alloc (.cells #[] E)) W.heap.size (.slice (some ⟨W.heap.size,0,none⟩) 0 0) []:=
 ⟨[],World.ownsRow_made W #[] 0 (Qn _) (Nat.zero_le _) (e:=E) (size:=T.size) (by simp),LiesL.nil _ _⟩
end Go.Proofs.YtmdfjnhfhidmhaaGreatDoor
namespace Go.Proofs.YtmdfjnhfhidmhaaGreatDoor
def annB:Bytes:= [97,110,110]
def bobB:Bytes:= [98,111,98]
def big:Int:=1099511627776
def twoA (w:Nat) (l:List Acc):Prop:= ∃u1 f1 u2 f2,l= [⟨annB,big,big,u1,f1⟩,⟨bobB,big,big,u2,f2⟩]∧(0≤u1∧u1≤w)∧(0≤f1∧f1≤w)∧(0≤u2∧u2≤w)∧(0≤f2∧f2≤w)
theorem cost_weight (r:Rqs):costB r.c≤(weightR r:Nat)∧costF r.c≤(weightR r:Nat):=by
 unfold costB costF weightR
 refine ⟨?_,?_⟩<;>split<;>omega
theorem charge_big {w:Nat} {l:List Acc} (h:twoA w l) (hw:w≤1000000) {r:Rqs} (hr:weightR r≤1000000) (ho:r.owner=annB∨r.owner=bobB):(chargeP l r).2=0∧twoA (w+weightR r) (chargeP l r).1:=by
 obtain ⟨u1,f1,u2,f2,rfl,⟨a0,a1⟩,⟨b0,b1⟩,⟨c0,c1⟩,⟨d0,d1⟩⟩:=h
 have hc:=cost_weight r
 have hn:=Xkr r.c
 have hab:annB≠bobB:=by decide
 have hbig:big=1099511627776:=rfl
 rcases ho with ho|ho
 ·have hov:¬overA ⟨annB,big,big,u1,f1⟩ r.c:=by unfold overA;dsimp only;omega
  have e:chargeP [⟨annB,big,big,u1,f1⟩,⟨bobB,big,big,u2,f2⟩] r=([⟨annB,big,big,u1+costB r.c,f1+costF r.c⟩,⟨bobB,big,big,u2,f2⟩],0):=by
   unfold chargeP chargeG
   dsimp only
   rw [if_pos ho.symm,if_neg hov];rfl
  rw [e]
  exact ⟨rfl,_,_,_,_,rfl,by omega,by omega,by omega,by omega⟩
 ·have hov:¬overA ⟨bobB,big,big,u2,f2⟩ r.c:=by unfold overA;dsimp only;omega
  have e:chargeP [⟨annB,big,big,u1,f1⟩,⟨bobB,big,big,u2,f2⟩] r=([⟨annB,big,big,u1,f1⟩,⟨bobB,big,big,u2+costB r.c,f2+costF r.c⟩],0):=by
   unfold chargeP chargeG
   dsimp only
   rw [if_neg (by rw [ho];exact hab),chargeG]
   dsimp only
   rw [if_pos ho.symm,if_neg hov];rfl
  rw [e]
  exact ⟨rfl,_,_,_,_,rfl,by omega,by omega,by omega,by omega⟩
theorem dirErr_16 (t:List Ent) (p:Bytes):dirErr t p≠16:=by
 unfold dirErr
 split
 ·decide
 ·split
  ·decide
  ·split<;>decide
theorem chkFrom_16:∀(l:List At) (q:Option At),chkFrom q l≠16
 | [],_=>by show (0:Int)≠16;decide
 |x::l,q=>by
  rw [chkFrom]
  split
  ·unfold atErr;split
   ·decide
   ·split<;>decide
  ·split
   ·decide
   ·split
    ·decide
    ·exact chkFrom_16 l _
theorem xtsErr_16 (f:Bool):∀l:List Xt,xtsErr f l≠16
 | []=>by show (0:Int)≠16;decide
 |x::l=>by
  rw [xtsErr]
  split
  ·decide
  ·split
   ·decide
   ·exact xtsErr_16 f l
theorem pathErr_16 (p:Bytes):pathErr p≠16:=by
 unfold pathErr
 split
 ·decide
 ·split
  ·decide
  ·split<;>decide
theorem entErr_16 (e:Ent):entErr e≠16:=by
 have h1:=pathErr_16 e.path
 have h2:chk e.attrs≠16:=by
  unfold chk
  split
  ·decide
  ·exact chkFrom_16 _ _
 have h3:=xtsErr_16 (e.kind==1) e.exts
 unfold entErr
 split
 ·decide
 split
 ·exact h1
 split
 ·decide
 split
 ·exact h2
 split
 ·decide
 split
 ·decide
 split
 ·decide
 split
 ·exact h3
 split<;>decide
theorem apply_16 (t:List Ent) (e:Ent):(applyT t e).2≠16:=by
 have h1:=entErr_16 e
 have h2:=dirErr_16 t (upP e.path)
 unfold applyT
 split
 ·exact h1
 split
 ·split
  ·show (9:Int)≠16;decide
  ·split<;>(show (0:Int)≠16;decide)
 split
 ·exact h2
 split
 ·split
  ·show (8:Int)≠16;decide
  ·show (0:Int)≠16;decide
 ·split
  ·show (6:Int)≠16;decide
  ·show (0:Int)≠16;decide
theorem step_16 (s:Stt) (e:Ent) (d:Int):(stpP s e d).2≠16:=by
 have h1:=apply_16 s.tree e
 have h2:askP s e d≠16:=by
  unfold askP alwP
  split
  ·split
   ·split<;>decide
   ·split
    ·split<;>decide
    ·decide
  ·decide
 have h3:(appH s.holds e d).2≠16:=by
  unfold appH
  split
  ·show (0:Int)≠16;decide
  ·split
   ·split
    ·show (0:Int)≠16;decide
    ·show (9:Int)≠16;decide
   ·show (0:Int)≠16;decide
 unfold stpP
 split
 ·exact h1
 split
 ·exact h2
 split
 ·exact h3
 ·show (0:Int)≠16;decide
theorem add_16 (d:Drf) (c:Chg):(addP d c).2≠16:=by
 have h1:=entErr_16 (recP d.sto c).1
 have h2:=step_16 d.stt (recP d.sto c).1 d.date
 unfold addP
 split
 ·exact h1
 split
 ·show (1:Int)≠16;decide
 split
 ·show (6:Int)≠16;decide
 split
 ·exact h2
 ·show (0:Int)≠16;decide
theorem ings_big:∀ {rs:List Rqs} {w:Nat} {s:Ing},twoA w s.l→w+weightP rs≤1000000→(∀r∈rs,r.owner=annB∨r.owner=bobB)→ ∃es,(rs.foldl ingS s).es=s.es++es∧
 (rs.foldl ingS s).d=(rs.map fun r=>r.c).foldl (fun d c=>(addP d c).1) s.d∧(∀e∈es,e≠16)∧(rs.foldl ingS s).d.ents.length=s.d.ents.length+(es.filter fun e=>e==0).length
 | [],w,s,_,_,_=>⟨[],by simp,rfl,fun _ h=>(by cases h),rfl⟩
 |r::rs,w,s,h,hw,ho=>by
  have hwr:weightP (r::rs)=weightR r+weightP rs:=by simp [weightP]
  rw [hwr] at hw
  obtain ⟨c1,c2⟩:=charge_big h (by omega) (r:=r) (by omega) (ho r (List.mem_cons_self ..))
  have hor:=fun x hx=>ho x (List.mem_cons_of_mem _ hx)
  by_cases ha:(addP s.d r.c).2≠0
  ·have hs:ingS s r=⟨s.d,s.l,s.es++ [(addP s.d r.c).2]⟩:=by unfold ingS;rw [if_neg (by omega),if_pos ha]
   have hd:(addP s.d r.c).1=s.d:=by
    rcases Xf9 s.d r.c with ⟨_,e⟩|⟨e,_⟩
    ·exact e
    ·exact absurd e ha
   obtain ⟨es,i1,i2,i3,i4⟩:=ings_big (rs:=rs) (w:=w) (s:=ingS s r) (by rw [hs];exact h) (by omega) hor
   rw [hs] at i1 i2 i4
   have hf:((addP s.d r.c).2==0)=false:=by simpa using ha
   refine ⟨(addP s.d r.c).2::es,by rw [List.foldl_cons,hs,i1];simp,by rw [List.foldl_cons,hs,i2,List.map_cons,List.foldl_cons,hd],fun e he=> ?_,by rw [List.foldl_cons,hs,i4,List.filter_cons,if_neg (by simp [hf])]⟩
   rcases List.mem_cons.1 he with rfl|he
   ·exact add_16 _ _
   ·exact i3 e he
  ·have hs:ingS s r=⟨(addP s.d r.c).1,(chargeP s.l r).1,s.es++ [0]⟩:=by unfold ingS;rw [if_neg (by omega),if_neg ha]
   obtain ⟨es,i1,i2,i3,i4⟩:=ings_big (rs:=rs) (w:=w+weightR r) (s:=ingS s r) (by rw [hs];exact c2) (by omega) hor
   rw [hs] at i1 i2 i4
   refine ⟨0::es,by rw [List.foldl_cons,hs,i1];simp,by rw [List.foldl_cons,hs,i2,List.map_cons,List.foldl_cons],fun e he=> ?_,?_⟩
   ·rcases List.mem_cons.1 he with rfl|he
    ·decide
    ·exact i3 e he
   ·rw [List.foldl_cons,hs,i4,List.filter_cons,if_pos (show ((0:Int)==0)=true from rfl),List.length_cons]
    rcases Xf9 s.d r.c with ⟨q,_⟩|⟨_,_,_,_,_,_,e⟩
    ·exact absurd q ha
    ·rw [e]
     simp
     omega
end Go.Proofs.YtmdfjnhfhidmhaaGreatDoor
namespace Go.Proofs.YtmdfjnhfhidmhaaGreatDoor
open Go.RowKit
def annU:Acc:=⟨annB,big,big,0,0⟩
def bobU:Acc:=⟨bobB,big,big,0,0⟩
def ownO (i:Nat):Bytes:=if i%2=0 then annB else bobB
def someK (rs:List Rqs) (k:Nat):List Rqs:=rs.mapIdx fun i r=>if i<k then ⟨ownO i,r.c⟩ else r
theorem someK_len (rs:List Rqs) (k:Nat):(someK rs k).length=rs.length:=by unfold someK;rw [List.length_mapIdx]
theorem someK_at (rs:List Rqs) (k i:Nat) (h1:i<(someK rs k).length) (h2:i<rs.length):(someK rs k)[i]=if i<k then ⟨ownO i,rs[i].c⟩ else rs[i]:=by
 simp [someK]
theorem someK_zero (rs:List Rqs):someK rs 0=rs:=by
 refine List.ext_getElem (someK_len rs 0) fun i h1 h2=> ?_
 rw [someK_at rs 0 i h1 h2,if_neg (by omega)]
theorem someK_succ (rs:List Rqs) {k:Nat} (hk:k<rs.length):someK rs (k+1)=(someK rs k).set k ⟨ownO k,rs[k].c⟩:=by
 refine List.ext_getElem (by rw [List.length_set,someK_len,someK_len]) fun i h1 h2=> ?_
 have hi:i<rs.length:=by rw [someK_len] at h1;exact h1
 rw [someK_at rs (k+1) i h1 hi,List.getElem_set]
 by_cases e:k=i
 ·subst e
  rw [if_pos (by omega),if_pos rfl]
 ·rw [if_neg e,someK_at rs k i (by rw [someK_len];exact hi) hi]
  by_cases h:i<k
  ·rw [if_pos (by omega),if_pos h]
  ·rw [if_neg (by omega),if_neg h]
theorem someK_next (rs:List Rqs) {k:Nat} (hk:k<rs.length) (h1:k<(someK rs k).length):(someK rs k)[k]=rs[k]:=by
 rw [someK_at rs k k h1 hk,if_neg (by omega)]
theorem someK_map (rs:List Rqs) (k:Nat):(someK rs k).map (fun r=>r.c)=rs.map fun r=>r.c:=by
 refine List.ext_getElem (by rw [List.length_map,List.length_map,someK_len]) fun i h1 h2=> ?_
 have hi:i<rs.length:=by rw [List.length_map] at h2;exact h2
 rw [List.getElem_map,List.getElem_map,someK_at rs k i (by rw [someK_len];exact hi) hi]
 split<;>rfl
theorem someK_own (rs:List Rqs):∀r∈someK rs rs.length,r.owner=annB∨r.owner=bobB:=fun r hr=>by
 obtain ⟨i,hi,rfl⟩:=List.getElem_of_mem hr
 have h2:i<rs.length:=by rw [someK_len] at hi;exact hi
 rw [someK_at rs _ i hi h2,if_pos h2]
 unfold ownO
 dsimp only
 split
 ·exact .inl rfl
 ·exact .inr rfl
theorem weight_re:∀ {L M:List Rqs},L.map (fun r=>r.c)=M.map (fun r=>r.c)→(∀r∈L,r.owner.length≤3)→weightP L≤weightP M+3*L.length
 | [],M,_,_=>by show (0:Nat)≤_;omega
 |x::L,[],h,_=>by cases h
 |x::L,y::M,h,ho=>by
  rw [List.map_cons,List.map_cons] at h
  injection h with h1 h2
  have ih:=weight_re h2 fun r hr=>ho r (List.mem_cons_of_mem _ hr)
  have hx:=ho x (List.mem_cons_self ..)
  have e1:weightP (x::L)=weightR x+weightP L:=by simp [weightP]
  have e2:weightP (y::M)=weightR y+weightP M:=by simp [weightP]
  have e3:weightR x+y.owner.length=weightR y+x.owner.length:=by
   unfold weightR
   rw [h1]
   omega
  rw [e1,e2,List.length_cons]
  omega
theorem unl_fit:AccsFit [annU,bobU]:=⟨AccsOk.of (by decide +kernel),fun a h=>by simp only [List.mem_cons,List.not_mem_nil,or_false] at h;rcases h with rfl|rfl<;>decide,fun a h=>by simp only [List.mem_cons,List.not_mem_nil,or_false] at h;rcases h with rfl|rfl<;>decide,by decide⟩
theorem unl_two:twoA 0 [annU,bobU]:=⟨0,0,0,0,rfl,by decide,by decide,by decide,by decide⟩
theorem unl_in {rs:List Rqs} (h:∀r∈rs,r.c.Wf∧r.c.attrs.length≤1000000) (k:Nat):∀r∈someK rs k,r.c.Wf∧r.c.attrs.length≤1000000:=fun r hr=>by
 have:r.c∈(someK rs k).map fun r=>r.c:=List.mem_map_of_mem hr
 rw [someK_map] at this
 obtain ⟨q,hq,e⟩:=List.mem_map.1 this
 rw [←e]
 exact h q hq
theorem unl_ing {d:Drf} (hd:d.ents= []) {rs:List Rqs} (hw:weightP rs≤1500):∃es,(ingP d [annU,bobU] (someK rs rs.length)).es=es∧(ingP d [annU,bobU] (someK rs rs.length)).d=foldD d (rs.map fun r=>r.c)∧(∀e∈es,e≠16)∧
 (ingP d [annU,bobU] (someK rs rs.length)).d.ents.length=(es.filter fun e=>e==0).length∧es.length=rs.length:=by
 have hl:=Xr7 rs
 have ho:∀r∈someK rs rs.length,r.owner.length≤3:=fun r hr=>by rcases someK_own rs r hr with e|e<;>rw [e]<;>decide
 have hw2:=weight_re (someK_map rs rs.length) ho
 rw [someK_len] at hw2
 obtain ⟨es,h1,h2,h3,h4⟩:=ings_big (rs:=someK rs rs.length) (w:=0) (s:=⟨d,[annU,bobU],[]⟩) unl_two (by omega) (someK_own rs)
 rw [List.nil_append] at h1
 rw [someK_map] at h2
 refine ⟨es,h1,h2,h3,?_,?_⟩
 ·refine h4.trans ?_
  show d.ents.length+_=_
  rw [hd,List.length_nil,Nat.zero_add]
 ·rw [←h1]
  have:=(ings_ok (rs:=someK rs rs.length) (s:=⟨d,[annU,bobU],[]⟩) unl_fit.ok).2.2
  rw [this,someK_len]
  exact Nat.zero_add _
theorem grown_cell (W:World) (b i:Nat) (v:Value):W.grownBy (W.setCell ⟨b,i,none⟩ v) (some b):=
 ⟨rfl,rfl,rfl,by simp,fun k _ hk=>Below.heap_setCell _ _ _ k (fun e=>hk (by rw [e]))⟩
theorem rq_info:(Tryz.prog.info? 27).map (fun i=>(i.zero,i.size,i.bytes))=some (some (.agg #[.string ⟨#[]⟩,.int .i64 0,.string ⟨#[]⟩,.slice none 0 0,.string ⟨#[]⟩,.string ⟨#[]⟩]),6,96):=by kernel_rfl
theorem rq_elem:ElemOk Tryz.prog 36 27 tRq 96:=ElemOk.of Tryz.underlying36 rq_info rfl (by decide) rfl
section
variable {I:IH} {W:World} {B g cap:Nat} {v:Value} {l:List Rqs}
theorem own_slice (h:OwnS tRq 27 I W B v l):∃a cap,v= .slice a l.length cap:=by
 obtain ⟨xs,h1,h2⟩:=h
 rcases h1.2 with ⟨hv,hz⟩|⟨g,cap,cur,hv,_⟩
 ·exact ⟨none,0,by rw [hv,hz]⟩
 ·exact ⟨_,cap,hv⟩
theorem own_rqAt (h:OwnS tRq 27 I W B v l) {i:Nat} (hi:i<l.length):∃g cap va,v= .slice (some ⟨g,0,none⟩) l.length cap∧B≤g∧g<W.heap.size∧
 RqAt W g (i*6) l[i] va∧RdS tAt I va l[i].c.attrs∧(∀j,W.frozen? ⟨g,j,none⟩=false):=by
 obtain ⟨xs,h1,h2⟩:=h
 rcases h1.2 with ⟨_,hz⟩|⟨g,cap,cur,hv,hb,hg,hnc,_⟩
 ·omega
 subst hv
 have hlt:g<W.heap.size:=(Array.getElem?_eq_some_iff.1 hg).1
 have hxl:xs.length=l.length*6:=h2.1
 obtain ⟨cs,⟨va,k1,k3⟩,k2⟩:=h2.2 i hi
 subst k1
 refine ⟨g,cap,va,rfl,hb,hlt,⟨?_,?_,?_,?_,?_,?_⟩,k3,fun j=>h1.frozenAt j⟩
 ·have:=h1.cellAt (i*6+0) (by show i*6+0<l.length*6;omega);rw [Nat.add_zero] at this;rw [this];exact k2 0 _ rfl
 ·rw [h1.cellAt _ (by show i*6+1<l.length*6;omega)];exact k2 1 _ rfl
 ·rw [h1.cellAt _ (by show i*6+2<l.length*6;omega)];exact k2 2 _ rfl
 ·rw [h1.cellAt _ (by show i*6+3<l.length*6;omega)];exact k2 3 _ rfl
 ·rw [h1.cellAt _ (by show i*6+4<l.length*6;omega)];exact k2 4 _ rfl
 ·rw [h1.cellAt _ (by show i*6+5<l.length*6;omega)];exact k2 5 _ rfl
theorem own_rqSet (h:OwnS tRq 27 I W B (.slice (some ⟨g,0,none⟩) l.length cap) l) {i:Nat} (hi:i<l.length) (o:Bytes):
 OwnS tRq 27 I (W.setCell ⟨g,i*6,none⟩ (S o)) B (.slice (some ⟨g,0,none⟩) l.length cap) (l.set i ⟨o,l[i].c⟩):=by
 obtain ⟨xs,h1,h2⟩:=h
 have hxl:xs.length=l.length*6:=h2.1
 have hs:=(h1.stored (i*6) (S o)).1
 refine ⟨_,by rw [List.length_set];exact hs,by rw [List.length_set,List.length_set];exact h2.1,fun k hk=> ?_⟩
 rw [List.length_set] at hk
 obtain ⟨cs,⟨va,k1,k3⟩,k2⟩:=h2.2 k hk
 subst k1
 by_cases he:i=k
 ·subst he
  refine ⟨rqCs ⟨o,l[i].c⟩ va,⟨va,by rw [List.getElem_set_self],by rw [List.getElem_set_self];exact k3⟩,fun m z hm=> ?_⟩
  show (xs.set (i*6) (S o))[i*6+m]? =some z
  by_cases e:m=0
  ·subst e
   rw [Nat.add_zero,List.getElem?_set_self (by omega)]
   exact hm
  ·rw [List.getElem?_set_ne (by omega)]
   refine k2 m z ?_
   obtain ⟨n,rfl⟩:∃n,m=n+1:=⟨m-1,by omega⟩
   exact hm
 ·refine ⟨rqCs l[k] va,⟨va,by rw [List.getElem_set_ne he],by rw [List.getElem_set_ne he];exact k3⟩,fun m z hm=> ?_⟩
  have hm6:m<6:=(List.getElem?_eq_some_iff.1 hm).1
  show (xs.set (i*6) (S o))[k*6+m]? =some z
  rw [List.getElem?_set_ne (by omega)]
  exact k2 m z hm
end
theorem unl_at (k:Nat) (h:k%2< [annU,bobU].length):([annU,bobU][k%2]'h).owner=ownO k:=by
 rcases Nat.mod_two_eq_zero_or_one k with e|e
 ·unfold ownO;simp only [e];rfl
 ·unfold ownO;simp only [e];rfl
theorem cnt_succ {es:List Int} {k:Nat} (hk:k<es.length) {e:Int} (he:es[k]=e):((es.take (k+1)).filter fun e=>e==0).length=((es.take k).filter fun e=>e==0).length+if e=0 then 1 else 0:=by
 rw [List.take_succ_eq_append_getElem hk,he,List.filter_append,List.length_append]
 congr 1
 by_cases h:e=0
 ·subst h;rfl
 ·have hf:(e==0)=false:=by simpa using h
  rw [if_neg h,List.filter_cons,if_neg (by simp [hf])];rfl
abbrev unlCs:List Value:=accCs annU++accCs bobU
set_option maxRecDepth 100000 in
set_option maxHeartbeats 4000000 in
theorem law_QuotaUnlimited (I:IH) (hI:Glob I) (vr:Value) (rs:List Rqs) (hvr:RdS tRq I vr rs) (hk:KIn rs) (hwt:weightP rs≤4611686018427387904) (date:Int) (w:World) (hw:Ok I w):
 Calls Tryz.prog 5 #[vr,.int .i64 date] w fun e w'=>e= .returned (.bool true)∧Below w.heap.size w w':=by
 have Haw:=Qh (fun J (hk:∀b c,I b=some c→J b=some c) w hw=>Xiz J (hI.mono hk) w hw)
 have A0:=Qh (MAt.start hw)
 have HG:=Qh hI
 have Hgr:=Qh (Xiy I (.slice none 0 0) [] (RdS.nil _ _) vr rs hvr hwt w hw)
 have Hvr:=Qh hvr
 have Hk:=Qh hk
 obtain ⟨ro,rcap,rfl,_,_,_⟩:=id hvr
 clear hI hvr hk hwt
 go_enter Tryz.func5,Tryz.ntmps5
 go_wp2_with fail
 refine Hgr.out.mono ?_
 rintro e3 w3 ⟨rfl,hb3⟩
 have A3:=Qh (A0.out.quiet hb3)
 clear hb3 A0 Hgr
 by_cases g:12<([]:List Acc).length∨1500<weightP rs
 ·rw [Qt g]
  clear g
  go_wp2_with fail
  refine (Haw.out _ A3.out.keep _ A3.out.ok).mono ?_
  rintro e9 w9 ⟨rfl,hb9⟩
  have A9:=Qh (A3.out.quiet hb9)
  go_wp2
  go_ret
  exact ⟨rfl,A9.out.bel⟩
 rw [Qf g]
 have Hwf:=Qh (Xr8 Hk.out (show weightP rs≤1500 by omega))
 have Hw5:=Qh (show weightP rs≤1500 by omega)
 have hrs:=Hwf.out.2
 clear g
 have hlie:LiesL tAcc I unlCs [annU,bobU]:=(LiesL.one (T:=tAcc) (x:=annU) (cs:=accCs annU) rfl).append (LiesL.one (T:=tAcc) (x:=bobU) (cs:=accCs bobU) rfl)
 obtain ⟨J,hk,_,hok,_,hr⟩:=Xk7 (T:=tAcc) (l:= [annU,bobU]) (cs:=unlCs) (A3.out.past (.cells unlCs.toArray 54)).ok (heap_alloc_new w3 _) (A3.out.ok.fresh (Qn _)) (hlie.mono A3.out.keep) (by decide)
 have A4:=Qh (show MAt I w J (w3.alloc (.cells #[.string ⟨#[97,110,110]⟩,.int .i64 1099511627776,.int .i64 1099511627776,.int .i64 0,.int .i64 0,.string ⟨#[98,111,98]⟩,.int .i64 1099511627776,.int .i64 1099511627776,.int .i64 0,.int .i64 0] 54)) from ⟨hok,fun b c h=>hk b c (A3.out.keep b c h),(A3.out.past _).bel⟩)
 have HL:=Qh hr
 clear hlie hk hok hr
 have hsrc:=SrcS.of_rd (Hvr.out.mono A4.out.keep) (A4.out.ok.alloc (.cells #[] 27)) (by decide)
 have hown:=own_made (T:=tRq) (E:=27) (I:=J) (w3.alloc (.cells #[.string ⟨#[97,110,110]⟩,.int .i64 1099511627776,.int .i64 1099511627776,.int .i64 0,.int .i64 0,.string ⟨#[98,111,98]⟩,.int .i64 1099511627776,.int .i64 1099511627776,.int .i64 0,.int .i64 0] 54))
 rw [World.size_alloc] at hown
 have hbig:(([]:List Rqs).length+rs.length)*96≤140737488355328:=by simp;omega
 have hbl:([]:List Rqs).length+rs.length≤9223372036854775807:=by simp;omega
 have hB4:w3.heap.size+1≤((w3.alloc (.cells #[.string ⟨#[97,110,110]⟩,.int .i64 1099511627776,.int .i64 1099511627776,.int .i64 0,.int .i64 0,.string ⟨#[98,111,98]⟩,.int .i64 1099511627776,.int .i64 1099511627776,.int .i64 0,.int .i64 0] 54)).alloc (.cells #[] 27)).heap.size:=by simp
 have Hsrc:=Qh hsrc
 have Hown:=Qh hown
 have Hbig:=Qh hbig
 have Hbl:=Qh hbl
 have HB4:=Qh hB4
 clear hsrc hown hbig hbl hB4
 go_upto_region 6 with (
  at_builtin
  refine Xbb rq_elem rfl _ _ rfl (l:= []) rfl Hown.out rfl Hsrc.out Hbig.out Hbl.out HB4.out ?_
  intro v4 w4 ho4 hg4 hl4)
 have A5:=Qh (show MAt I w J w4 from (A4.out.past (.cells #[] 27)).ownO hg4 (fun g e=>⟨A4.out.ok.fresh (by have:=Hown.out.own_ge e;simp;omega),by have:=Hown.out.own_ge e;have:=A3.out.size;omega⟩))
 have hno4:∀g,v4.ownBlock=some g→J g=none:=fun g e=>A4.out.ok.fresh (by have:=OwnS.own_ge ho4 e;simp;omega)
 have hsz4:=hg4.size
 simp only [World.size_alloc] at hsz4
 have hlt4:∀g,v4.ownBlock=some g→g<w4.heap.size:=fun g e=>(Xda ho4 e).2
 rw [List.nil_append] at ho4
 have hsz3:=A3.out.size
 obtain ⟨a4,k4,rfl⟩:=own_slice ho4
 have HO:=Qh (show OwnS tRq 27 J w4 (w3.heap.size+1) (.slice a4 rs.length k4) (someK rs 0) by rw [someK_zero];exact ho4)
 have HNo:=Qh hno4
 have HLt:=Qh hlt4
 clear ho4 hno4 hlt4 hg4 hl4 Hsrc Hown Hbig Hbl HB4
 have HCs:=Qh (OwnS.nil tChg 25 J w4 w4.heap.size)
 generalize w3.heap.size=N at*
 go_wp2_with fail
 go_loopw [5,8,30] (fun s5 _ s30 wr=> ∃k:Nat,k≤rs.length∧s30= .int .i64 k∧MAt I w J wr∧OwnS tRq 27 J wr (N+1) (.slice a4 rs.length k4) (someK rs k)∧
  OwnS tChg 25 J wr w4.heap.size s5 ((rs.take k).map fun r=>r.c)∧(∀g,s5.ownBlock=some g→J g=none)∧w4.heap.size≤wr.heap.size) (fun _ _ i _=>rs.length-(intOf i).toNat)
 case atStart=>exact ⟨0,Nat.zero_le _,rfl,A5.out,HO.out,HCs.out,fun g e=>(by cases e),Qn _⟩
 case round=>
  clear A3 A4 A5 HO HCs
  obtain ⟨k,hk,rfl,hA,hO,hC,hN,hsz⟩:=hrel
  have A:=Qh hA
  have HN:=Qh hN
  have HC:=Qh hC
  clear hA hC hN
  by_cases hlt:k<rs.length
  ·have hks:k<(someK rs k).length:=by rw [someK_len];exact hlt
   obtain ⟨g,cap,va,hvv,hBg,hgl,hR,hva,hfz⟩:=own_rqAt hO hks
   rw [someK_len] at hvv
   cases hvv
   have hset:=own_rqSet (by rw [someK_len];exact hO) hks (ownO k)
   rw [someK_next rs hlt hks] at hR hva hset
   rw [←someK_succ rs hlt,someK_len] at hset
   obtain ⟨r,hr⟩:∃r,rs[k]=r:=⟨_,rfl⟩
   have hJg:=HNo.out g rfl
   have hg4:=HLt.out g rfl
   have hm2:k%2< [annU,bobU].length:=Nat.mod_lt _ (by decide)
   have hx:=unl_at k hm2
   obtain ⟨x,b,off,cap2,hlx,hvv,⟨c0,c1,c2,c3,c4⟩⟩:=Xni HL.out A.out.ok (k%2) hm2
   cases hvv
   rw [hlx] at hx
   rw [hx,Nat.zero_add] at c0
   rw [hr] at hR hva
   have Hr:=Qh hr
   obtain ⟨d0,d1,d2,d3,d4,d5⟩:=(⟨hR.c0,hR.c1,hR.c2,hR.c3,hR.c4,hR.c5⟩:_∧_∧_∧_∧_∧_)
   have r1:((k:Int).tmod 2)=((k%2:Nat):Int):=by rw [Int.tmod_eq_emod_of_nonneg (by omega)];rfl
   have f0:=hfz (k*6)
   have Hset:=Qh hset
   have hm3:k%2<2:=hm2
   obtain ⟨oa,ca,rfl,_,_,_⟩:=id hva
   clear hx hlx hR hset c1 c2 c3 c4 hfz hm2 hr hks
   generalize k%2=m at r1 c0 hm3
   generalize ownO k=ow at c0 Hset
   have hgr:=grown_cell wr g (k*6) (S ow)
   have As:=Qh (show MAt I w J (wr.setCell ⟨g,k*6,none⟩ (S ow)) from A.out.ownO hgr (fun g' e=>by injection e with e;subst e;exact ⟨hJg,by omega⟩))
   have hne5:=HC.out.ne_lt hg4
   have HCs:=Qh (HC.out.kept hgr (.inr hne5))
   have e1:(wr.setCell ⟨g,k*6,none⟩ (S ow)).cell? ⟨g,k*6+1,none⟩=some _:=(World.cell?_setCell_other _ _ _ _ (by intro e;injection e with _ e2;omega)).trans d1
   have e2:(wr.setCell ⟨g,k*6,none⟩ (S ow)).cell? ⟨g,k*6+2,none⟩=some _:=(World.cell?_setCell_other _ _ _ _ (by intro e;injection e with _ e2;omega)).trans d2
   have e3:(wr.setCell ⟨g,k*6,none⟩ (S ow)).cell? ⟨g,k*6+3,none⟩=some _:=(World.cell?_setCell_other _ _ _ _ (by intro e;injection e with _ e2;omega)).trans d3
   have e4:(wr.setCell ⟨g,k*6,none⟩ (S ow)).cell? ⟨g,k*6+4,none⟩=some _:=(World.cell?_setCell_other _ _ _ _ (by intro e;injection e with _ e2;omega)).trans d4
   have e5:(wr.setCell ⟨g,k*6,none⟩ (S ow)).cell? ⟨g,k*6+5,none⟩=some _:=(World.cell?_setCell_other _ _ _ _ (by intro e;injection e with _ e2;omega)).trans d5
   have hsz5:w4.heap.size≤(wr.setCell ⟨g,k*6,none⟩ (S ow)).heap.size:=by rw [World.size_setCell];exact hsz
   have E1:=Qh e1
   have E2:=Qh e2
   have E3:=Qh e3
   have E4:=Qh e4
   have E5:=Qh e5
   have Hva:=Qh hva
   have Hsz5:=Qh hsz5
   have Hne5:=Qh hne5
   clear e1 e2 e3 e4 e5 hgr hO HC A hva hsz5 hne5
   go_upto_region 10 with fail
   generalize wr.setCell _ _=w5 at As HCs E1 E2 E3 E4 E5 Hset Hsz5 ⊢
   clear c0 d0 d1 d2 d3 d4 d5 f0 r1 hgl
   have e1:=E1.out
   have e2:=E2.out
   have e3:=E3.out
   have e4:=E4.out
   have e5:=E5.out
   have hsz5:=Hsz5.out
   have hlk:((rs.take k).map fun r=>r.c).length=k:=by rw [List.length_map,List.length_take];omega
   have Hlk:=Qh hlk
   clear E1 E2 E3 E4 E5 hlk
   go_upto_region 11 with (
    at_builtin
    refine Xbb Xrn rfl _ _ rfl (B:=w4.heap.size) rfl (HCs.out.alloc _) (vx:= .slice (some ⟨w5.heap.size,0,none⟩) 1 1) (by simp [Act.eval]) (SrcS.of_one (T:=tChg) (x:=r.c) (cs:=chgCs r.c (.slice oa r.c.attrs.length ca)) ⟨_,rfl,Hva.out⟩ (fun j u hu=>by rw [World.cell?_alloc_new];simpa using hu)) (by rw [Hlk.out,List.length_singleton];omega) (by rw [Hlk.out,List.length_singleton];omega) (by simp;omega) ?_
    intro v7 w7 ho7 hg7 hl7)
   have A7:=Qh ((As.out.past (.cells (chgCs r.c (.slice oa r.c.attrs.length ca)).toArray 25)).ownO hg7 (fun g' e=>⟨HN.out g' e,by have:=HCs.out.own_ge e;omega⟩))
   have HO7:=Qh ((Hset.out.alloc (.cells (chgCs r.c (.slice oa r.c.attrs.length ca)).toArray 25)).kept hg7 (.inr (fun e=>Hne5.out e.symm)))
   have HC7:=Qh ho7
   have HN7:=Qh (fun g' e=>(hl7 g' e).elim (HN.out g') (fun q=>As.out.ok.fresh (by simp at q ⊢;omega)):∀g',v7.ownBlock=some g'→J g'=none)
   have hs7:=hg7.size
   simp only [World.size_alloc] at hs7
   have Hn:=Qh (show (rs.take (k+1)).map (fun r=>r.c)=(rs.take k).map (fun r=>r.c)++ [r.c] by rw [List.take_succ_eq_append_getElem hlt,Hr.out,List.map_append];rfl)
   clear ho7 hg7 hl7 As HCs Hset e1 e2 e3 e4 e5 Hlk
   go_wp2_with fail
   go_roundw
   case rel=>exact ⟨k+1,by omega,by go_num,A7.out,HO7.out,by rw [Hn.out];exact HC7.out,HN7.out,by omega⟩
   case measure=>simp [intOf];omega
  ·have hke:k=rs.length:=by omega
   subst hke
   obtain ⟨J1,hk1,_,ok1,hrS,ne1⟩:=hO.freezeA A.out.ok HNo.out
   obtain ⟨J2,hk2,_,ok2,hrC,_⟩:=(HC.out.mono hk1).freezeA ok1 (fun g' e=>(ne1 g' (fun e2=>by have:=HLt.out g' e2;have:=HC.out.own_ge e;omega)).trans (HN.out g' e))
   have A2:=Qh (show MAt I w J2 wr from ⟨ok2,fun b c h=>hk2 b c (hk1 b c (A.out.keep b c h)),A.out.bel⟩)
   have HS:=Qh (hrS.mono hk2)
   have HL2:=Qh ((HL.out.mono hk1).mono hk2)
   rw [List.take_length] at hrC
   have hCm:∀c∈rs.map (fun r=>r.c),c.Wf∧c.attrs.length≤1000000:=fun c hc=>by obtain ⟨r,hr,rfl⟩:=List.mem_map.1 hc;exact Hwf.out.1 r hr
   have hCl:(rs.map fun r=>r.c).length≤150:=by rw [List.length_map];exact hrs
   have Hun:=Qh (fun (d:Drf) (hd:d.ents= [])=>unl_ing hd Hw5.out)
   obtain ⟨C,hC⟩:∃C,rs.map (fun r=>r.c)=C:=⟨_,rfl⟩
   rw [hC] at hrC hCm hCl Hun
   have HCr:=Qh hrC
   have HCm:=Qh hCm
   obtain ⟨oC,cC,rfl,_,_,_⟩:=id hrC
   have hd1:=Xfl J2 (HG.out.mono A2.out.keep) date (.slice none 0 0) [] (RdS.nil _ _) (fun c h=>by cases h) (by decide) wr A2.out.ok
   have hd2:=(fun J' (hk:∀b c,J2 b=some c→J' b=some c) w hw=>Xfl J' (HG.out.mono (fun b c h=>hk b c (A2.out.keep b c h))) date _ C (HCr.out.mono hk) HCm.out hCl w hw)
   obtain ⟨dB,okB,hdB⟩:∃dB okB,dftP date []=(dB,okB):=⟨_,_,rfl⟩
   obtain ⟨dW,okW,hdW⟩:∃dW okW,dftP date C=(dW,okW):=⟨_,_,rfl⟩
   rw [hdB] at hd1
   rw [hdW] at hd2
   dsimp only at hd1 hd2
   have Hd1:=Qh hd1
   have Hd2:=Qh hd2
   have HdB:=Qh hdB
   have HdW:=Qh hdW
   clear hk1 hk2 ok1 ok2 hrS hrC ne1 hO HC HN A HNo HLt HL hd1 hd2 hdB hdW hC hCm
   go_wp2_with fail
   refine (Hd1.out).mono ?_
   rintro e11 w11 ⟨ve11,vk11,vt11,vh11,J11,rfl,hb11,hx11,hok11,hrd11⟩
   obtain ⟨ae11,ce11,rfl,_,_,_⟩:=id hrd11.ents
   obtain ⟨ak11,ck11,rfl,_,_,_⟩:=id hrd11.cks
   obtain ⟨at11,ct11,rfl,_,_,_⟩:=id hrd11.tree
   obtain ⟨ah11,ch11,rfl,_,_,_⟩:=id hrd11.holds
   go_upto_region 13 with (
    refine Xab rfl rfl 43 _ _ rfl w11.heap.size 0 (drCs dB (.slice ae11 dB.ents.length ce11) (.slice ak11 dB.sto.cks.length ck11) (.slice at11 dB.tree.length ct11) (.slice ah11 dB.holds.length ch11)) (drV dB (.slice ae11 dB.ents.length ce11) (.slice ak11 dB.sto.cks.length ck11) (.slice at11 dB.tree.length ct11) (.slice ah11 dB.holds.length ch11)) (by simp [Act.eval]) (by simp [Act.eval]) (by rfl) zeroD 43 (heap_alloc_new _ _) (by simp) (by kernel_rfl) (by simp [Value.oneCell']) (drCs dB (.slice ae11 dB.ents.length ce11) (.slice ak11 dB.sto.cks.length ck11) (.slice at11 dB.tree.length ct11) (.slice ah11 dB.holds.length ch11)).toArray (by rfl) ?_
    intro w12 hg12 hr12)
   have hb12:Below w11.heap.size w11 w12:=((Qb _ _).alloc (Qn _) _).grown hg12 (by simp) (fun k e=>by injection e with e;omega)
   have hf11:J11 w11.heap.size=none:=hok11.fresh (Qn _)
   have A12:=Qh ((A2.out.ext hb11 hx11 hok11).quiet hb12)
   have HK12:=Qh (fun b c h=>hx11.keep A2.out.ok (Qn _) b c h)
   have D12:=Qh (show WrB J11 w12 w11.heap.size dB _ _ _ _ from ⟨A12.out.ok,hf11,hrd11,hr12⟩)
   clear hb11 hx11 hok11 hrd11 hg12 hr12 hb12 hf11 Hd1
   generalize w11.heap.size=B1 at D12 ⊢
   go_wp2_with fail
   refine (Hd2.out J11 HK12.out w12 A12.out.ok).mono ?_
   rintro e13 w13 ⟨ve13,vk13,vt13,vh13,J13,rfl,hb13,hx13,hok13,hrd13⟩
   obtain ⟨ae13,ce13,rfl,_,_,_⟩:=id hrd13.ents
   obtain ⟨ak13,ck13,rfl,_,_,_⟩:=id hrd13.cks
   obtain ⟨at13,ct13,rfl,_,_,_⟩:=id hrd13.tree
   obtain ⟨ah13,ch13,rfl,_,_,_⟩:=id hrd13.holds
   go_upto_region 14 with (
    refine Xab rfl rfl 43 _ _ rfl w13.heap.size 0 (drCs dW (.slice ae13 dW.ents.length ce13) (.slice ak13 dW.sto.cks.length ck13) (.slice at13 dW.tree.length ct13) (.slice ah13 dW.holds.length ch13)) (drV dW (.slice ae13 dW.ents.length ce13) (.slice ak13 dW.sto.cks.length ck13) (.slice at13 dW.tree.length ct13) (.slice ah13 dW.holds.length ch13)) (by simp [Act.eval]) (by simp [Act.eval]) (by rfl) zeroD 43 (heap_alloc_new _ _) (by simp) (by kernel_rfl) (by simp [Value.oneCell']) (drCs dW (.slice ae13 dW.ents.length ce13) (.slice ak13 dW.sto.cks.length ck13) (.slice at13 dW.tree.length ct13) (.slice ah13 dW.holds.length ch13)).toArray (by rfl) ?_
    intro w14 hg14 hr14)
   have hb14:Below w13.heap.size w13 w14:=((Qb _ _).alloc (Qn _) _).grown hg14 (by simp) (fun k e=>by injection e with e;omega)
   have hf13:J13 w13.heap.size=none:=hok13.fresh (Qn _)
   have A14:=Qh ((A12.out.ext hb13 hx13 hok13).quiet hb14)
   have HK14:=Qh (fun b c h=>hx13.keep A12.out.ok (Qn _) b c (HK12.out b c h))
   have D14:=Qh ((D12.out.ext hb13 hx13 hok13).below hb14)
   have W14:=Qh (show WrB J13 w14 w13.heap.size dW _ _ _ _ from ⟨A14.out.ok,hf13,hrd13,hr14⟩)
   clear hb13 hx13 hok13 hrd13 hg14 hr14 hb14 hf13 Hd2 A12 D12 A2 HK12
   generalize w13.heap.size=B2 at W14 ⊢
   by_cases q:begErr [] date=0
   case neg=>
    obtain ⟨q1,rfl⟩:=Prod.mk.inj (HdB.out.symm.trans ((Xhz date).trans (if_pos q)))
    clear q1 q HdB HdW Hun
    go_wp2_with fail
    refine (Haw.out _ A14.out.keep _ A14.out.ok).mono ?_
    rintro e9 w9 ⟨rfl,hb9⟩
    have A9:=Qh (A14.out.quiet hb9)
    go_wp2
    go_ret
    exact ⟨rfl,A9.out.bel⟩
   obtain ⟨q1,rfl⟩:=Prod.mk.inj (HdB.out.symm.trans ((Xhz date).trans (if_neg (fun h=>h q))))
   obtain ⟨q2,rfl⟩:=Prod.mk.inj (HdW.out.symm.trans (show dftP date C=(foldD dB C,true) by rw [dftP,if_neg (by rw [q];decide),q1]))
   have HdO:=Qh (show DrOk 0 dB by rw [q1];exact Xho Xec (by decide) (by decide) q)
   obtain ⟨es,u1,u2,u3,u4,u5⟩:=Hun.out dB (by rw [q1];rfl)
   have hi1:=Xfa J13 (HG.out.mono A14.out.keep) dB HdO.out _ _ _ _ D14.out.rd _ [annU,bobU] (HL2.out.mono HK14.out) unl_fit _ (someK rs rs.length) (HS.out.mono HK14.out) (unl_in Hwf.out.1 _) (by rw [someK_len];exact hrs) w14 A14.out.ok
   obtain ⟨s,hs⟩:∃s,ingP dB [annU,bobU] (someK rs rs.length)=s:=⟨_,rfl⟩
   rw [hs] at hi1 u1 u2 u4
   subst u1
   obtain rfl:s.d=dW:=u2.trans q2.symm
   have Hi1:=Qh hi1
   have U3:=Qh u3
   have U4:=Qh u4
   have U5:=Qh u5
   obtain ⟨b0,b1,b2,b3,b4,b5,b6,b7,b8⟩:=drB_row (d:=dB) D14.out.row
   clear q q1 q2 HdB HdW HdO Hun hi1 hs u2 u3 u4 u5
   go_wp2_with fail
   refine (Hi1.out).mono ?_
   rintro e15 w15 ⟨ve15,vk15,vt15,vh15,va15,vs15,J15,rfl,hb15,hx15,hok15,hrd15,hra15,hrs15⟩
   obtain ⟨ae15,ce15,rfl,_,_,_⟩:=id hrd15.ents
   obtain ⟨ak15,ck15,rfl,_,_,_⟩:=id hrd15.cks
   obtain ⟨at15,ct15,rfl,_,_,_⟩:=id hrd15.tree
   obtain ⟨ah15,ch15,rfl,_,_,_⟩:=id hrd15.holds
   obtain ⟨aa15,ca15,rfl,_,_,_⟩:=id hra15
   obtain ⟨as15,cs15,rfl,_,_,_⟩:=id hrs15
   go_upto_region 17 with (
    refine Xab rfl rfl 43 _ _ rfl w15.heap.size 0 (drCs s.d (.slice ae15 s.d.ents.length ce15) (.slice ak15 s.d.sto.cks.length ck15) (.slice at15 s.d.tree.length ct15) (.slice ah15 s.d.holds.length ch15)) (drV s.d (.slice ae15 s.d.ents.length ce15) (.slice ak15 s.d.sto.cks.length ck15) (.slice at15 s.d.tree.length ct15) (.slice ah15 s.d.holds.length ch15)) (by simp [Act.eval]) (by simp [Act.eval]) (by rfl) zeroD 43 (heap_alloc_new _ _) (by simp) (by kernel_rfl) (by simp [Value.oneCell']) (drCs s.d (.slice ae15 s.d.ents.length ce15) (.slice ak15 s.d.sto.cks.length ck15) (.slice at15 s.d.tree.length ct15) (.slice ah15 s.d.holds.length ch15)).toArray (by rfl) ?_
    intro w16 hg16 hr16)
   have hb16:Below w15.heap.size w15 w16:=((Qb _ _).alloc (Qn _) _).grown hg16 (by simp) (fun k e=>by injection e with e;omega)
   have hf15:J15 w15.heap.size=none:=hok15.fresh (Qn _)
   have A16:=Qh ((A14.out.ext hb15 hx15 hok15).quiet hb16)
   have W16:=Qh ((W14.out.ext hb15 hx15 hok15).below hb16)
   have E16:=Qh (show WrB J15 w16 w15.heap.size s.d _ _ _ _ from ⟨A16.out.ok,hf15,hrd15,hr16⟩)
   have HE:=Qh hrs15
   clear hb15 hx15 hok15 hrd15 hra15 hrs15 hg16 hr16 hb16 hf15 A14 D14 W14 Hi1 b0 b1 b2 b3 b4 b5 b6 b7 b8
   generalize w15.heap.size=B3 at E16 ⊢
   have hel:s.es.length≤150:=by rw [U5.out];exact hrs
   go_wp2_with fail
   go_loopw [16,18,80] (fun s16 _ s80 wr=> ∃k:Nat,k≤s.es.length∧s80= .int .i64 k∧s16= .int .i64 (((s.es.take k).filter fun e=>e==0).length:Nat)∧Below w16.heap.size w16 wr) (fun _ _ i _=>s.es.length-(intOf i).toNat)
   case atStart=>exact ⟨0,Nat.zero_le _,rfl,rfl,Qb _ _⟩
   case round=>
    obtain ⟨k,hk,rfl,rfl,hb⟩:=hrel
    have A:=Qh (A16.out.quiet hb)
    by_cases hlt:k<s.es.length
    ·obtain ⟨ek,b2,off2,cap2,hle,hvv,hc⟩:=Xra HE.out A.out.ok k hlt
     cases hvv
     have Hcs:=Qh (cnt_succ hlt hle)
     have hct:((s.es.take k).filter fun e=>e==0).length≤k:=Nat.le_trans (List.length_filter_le _ _) (by rw [List.length_take];omega)
     have hn16:ek≠16:=U3.out ek (by rw [←hle];exact List.getElem_mem hlt)
     have i2:(ek==16)=false:=by simpa using hn16
     generalize ((s.es.take k).filter fun e=>e==0).length=n at hct Hcs ⊢
     clear hle hn16
     by_cases h0:ek=0
     ·subst h0
      rw [if_pos rfl] at Hcs
      have m1:IntKind.i64.wrap ((n:Int)+1)=(n:Int)+1:=IntWalk.i64_in _ (by omega)
      go_wp2_with fail
      go_roundw
      case rel=>exact ⟨k+1,by omega,by go_num,by rw [Hcs.out];simp,hb⟩
      case measure=>simp [intOf];omega
     ·rw [if_neg h0,Nat.add_zero] at Hcs
      have i1:(ek==0)=false:=by simpa using h0
      clear h0
      go_wp2_with fail
      go_roundw
      case rel=>exact ⟨k+1,by omega,by go_num,by rw [Hcs.out];rfl,hb⟩
      case measure=>simp [intOf];omega
    ·have hke:k=s.es.length:=by omega
     subst hke
     rw [List.take_length]
     have i2:((((s.es.filter fun e=>e==0).length:Nat):Int)==(s.d.ents.length:Int))=true:=by rw [U4.out];simp
     generalize (s.es.filter fun e=>e==0).length=n at i2 ⊢
     have E7:=Qh (E16.out.below hb)
     have W7:=Qh (W16.out.below hb)
     obtain ⟨b0,b1,b2,b3,b4,b5,b6,b7,b8⟩:=drB_row (d:=s.d) E7.out.row
     obtain ⟨c0,c1,c2,c3,c4,c5,c6,c7,c8⟩:=drB_row (d:=s.d) W7.out.row
     clear hb
     go_wp2_with fail
     refine (Xhk J15 s.d _ _ _ _ _ _ _ _ E7.out.rd W7.out.rd wr A.out.ok).mono ?_
     rintro e10 w10 ⟨rfl,hb10⟩
     have A10:=Qh (A.out.quiet hb10)
     have W10:=Qh (W7.out.below hb10)
     clear hb10 A E7 W7 b0 b1 b2 b3 b4 b5 b6 b7 b8 c0 c1 c2 c3 c4 c5 c6 c7 c8
     obtain ⟨c0,c1,c2,c3,c4,c5,c6,c7,c8⟩:=drB_row (d:=s.d) W10.out.row
     go_wp2_with fail
     refine (Haw.out _ A10.out.keep _ A10.out.ok).mono ?_
     rintro e19 w19 ⟨rfl,hb19⟩
     have A19:=Qh (A10.out.quiet hb19)
     go_wp2
     go_ret
     exact ⟨rfl,A19.out.bel⟩
end Go.Proofs.YtmdfjnhfhidmhaaGreatDoor
