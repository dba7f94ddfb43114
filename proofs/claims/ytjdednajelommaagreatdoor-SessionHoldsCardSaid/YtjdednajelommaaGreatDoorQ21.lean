/-
  Walks and laws that the claim's theorem uses: texts HiR HiS SnP SnQ SnR SnF SnG, joined; comments out. Conditions: as each theorem says.
-/
import Derived.Test.YtjdednajelommaaGreatDoorQ20
set_option linter.unusedSimpArgs false
set_option linter.unusedVariables false
namespace Go.Proofs.YtjdednajelommaaGreatDoor
theorem Xpx (s:Stt) (a b:List Ses):aftS s (a++b)=aftS (aftS s a) b:=List.foldl_append
def writes (p:Bytes) (e:Ent):Bool:=decide (e.kind≤3)&&e.path==p
def wrCount (p:Bytes) (l:List Ses):Nat:=(l.flatMap fun x=>x.ents.filter (writes p)).length
def keeps (v:Ver):Bool:=decide (v.e.kind≠4)
def AltOk:Bool→List Ver→Prop
 |_,[]=>True
 |r,v::vs=>if v.e.kind=4 then r=false∧AltOk true vs else AltOk false vs
end Go.Proofs.YtjdednajelommaaGreatDoor
namespace Go.Proofs.YtjdednajelommaaGreatDoor
structure SIn (n:Nat) (s:Stt):Prop where
 ok:SOk n s
 sml:SmlT s.tree
theorem Xqi:SIn 0 nilS:=⟨Xva,fun _ h=>(by cases h)⟩
theorem SIn.mono {n m:Nat} {s:Stt} (h:SIn n s) (hm:n≤m):SIn m s:=⟨h.ok.mono hm,h.sml⟩
theorem Xi3 {n:Nat} {s:Stt} (h:SIn n s) (e:Ent) (d:Int) (hp:e.path.length≤300) (ht:e.target.length≤300):SIn (n+1) (stpP s e d).1:=by
 refine ⟨Xsy h.ok e d,?_⟩
 unfold stpP
 split
 ·exact h.sml
 ·rename_i h1
  split
  ·exact h.sml
  ·split
   ·exact h.sml
   ·have ha:=Xex (t:=s.tree) (e:=e) (by omega)
    obtain ⟨_,hx⟩:=applyT_iff.1 ha
    intro z hz
    rw [hx] at hz
    rcases (Xwg h.ok.tree.srt e z).1 hz with ⟨_,rfl⟩|⟨hz,_⟩
    ·omega
    ·exact h.sml z hz
theorem Xqo:∀(l:List Ent) {n:Nat} {s:Stt} (_:SIn n s) (d:Int),(∀e∈l,e.path.length≤300∧e.target.length≤300)→SIn (n+l.length) (runS s d l)
 | [],_,_,h,_,_=>h
 |e::l,n,s,h,d,hl=>by
  have he:=hl e (List.mem_cons_self ..)
  have:=Xqo l (Xi3 h e d he.1 he.2) d fun x hx=>hl x (List.mem_cons_of_mem _ hx)
  exact this.mono (by simp;omega)
theorem Xnr (s:Stt) (d:Int) (l:List Ent) (e:Ent):runS s d (l++ [e])=(stpP (runS s d l) e d).1:=by simp [runS]
theorem Xs3 {s:Stt} {d:Int} {l:List Ent} {k:Nat} (hk:k<l.length) {e:Ent} (he:l[k]=e):runS s d (l.take (k+1))=(stpP (runS s d (l.take k)) e d).1:=by
 rw [List.take_succ_eq_append_getElem hk,he,Xnr]
theorem Xum {s:Stt} {l:List Ses} {k:Nat} (hk:k<l.length) {x:Ses} (hx:l[k]=x):aftS s (l.take (k+1))=runS (aftS s (l.take k)) x.date x.ents:=by
 rw [List.take_succ_eq_append_getElem hk,hx,Xpx];rfl
def pairs (l:List Ses):List (Ses × Ent):=l.flatMap fun s=>s.ents.map fun e=>(s,e)
def stq (s:Stt) (q:Ses × Ent):Stt:=(stpP s q.2 q.1.date).1
theorem Xkg (x:Ses):∀(l:List Ent) (s:Stt),runS s x.date l=(l.map fun e=>(x,e)).foldl stq s
 | [],_=>rfl
 |e::l,s=>by
  rw [List.map_cons,List.foldl_cons]
  exact Xkg x l _
theorem Xh3:∀(l:List Ses) (s:Stt),aftS s l=(pairs l).foldl stq s
 | [],_=>rfl
 |x::l,s=>by
  rw [pairs,List.flatMap_cons,List.foldl_append,←Xkg]
  exact Xh3 l _
def verQ (p:Bytes):Stt→List (Ses × Ent)→List Ver
 |_,[]=> []
 |s,q::r=>(if verHit s p q.2 then [⟨q.1.num,q.1.date,q.2⟩] else [])++verQ p (stq s q) r
theorem Xjn:∀(l:List (Ses × Ent)) {n:Nat} {s:Stt} (_:SIn n s),(∀q∈l,q.2.path.length≤300∧q.2.target.length≤300)→SIn (n+l.length) (l.foldl stq s)
 | [],_,_,h,_=>h
 |q::l,n,s,h,hl=>by
  have he:=hl q (List.mem_cons_self ..)
  have:=Xjn l (Xi3 h q.2 q.1.date he.1 he.2) fun x hx=>hl x (List.mem_cons_of_mem _ hx)
  exact this.mono (by simp;omega)
def gr40 (s:Ses):Bool:=decide (100<s.prev.length) || (decide (1000<s.stream.length) || (decide (2100<s.sl.length) || ((decide (12<s.ents.length)&&decide (s.ents.length≠401)) || s.ents.any greatE)))
def gr41s (s:Ses):Bool:=decide (30<s.ents.length) || gr40 s
def wtS (s:Ses):Nat:=s.stream.length+10*s.ents.length
def wtL (l:List Ses):Nat:=(l.map wtS).sum
def gr41 (l:List Ses):Bool:=decide (8<l.length) || (l.any gr41s || decide (20000<wtL l))
structure Ses.Wf (s:Ses):Prop where
 num: -9223372036854775808≤s.num∧s.num≤9223372036854775807
 date: -9223372036854775808≤s.date∧s.date≤9223372036854775807
 ents:∀e∈s.ents,e.Wf
theorem Xca {α:Type} {p:α→Bool} {l:List α} {k:Nat} (hk:k<l.length) {x:α} (hx:l[k]=x) (h1:(l.take k).any p=false) (h2:p x=false):(l.take (k+1)).any p=false:=by
 rw [List.take_succ_eq_append_getElem hk,hx,List.any_append,h1];simp [h2]
theorem Xj1 {α:Type} {p:α→Bool} {l:List α} {k:Nat} (hk:k<l.length) {x:α} (hx:l[k]=x) (h:p x=true):l.any p=true:=
 List.any_eq_true.2 ⟨x,by rw [←hx];exact List.getElem_mem hk,h⟩
end Go.Proofs.YtjdednajelommaaGreatDoor
namespace Go.Proofs.YtjdednajelommaaGreatDoor
structure Chg where
 kind:Int
 path:Bytes
 attrs:List At
 target:Bytes
 content:Bytes
structure Drf where
 num:Int
 date:Int
 prev:Bytes
 ents:List Ent
 sto:Sto
 tree:List Ent
 holds:List Ho
def nilD:Drf:=⟨0,0,[],[],⟨[],0,[]⟩,[],[]⟩
def recP (q:Sto) (c:Chg):Ent × Sto:=
 if c.kind=1 then (⟨c.kind,c.path,c.attrs,c.target,(c.content.length:Nat),sumP c.content,(putP q c.content).2.1⟩,(putP q c.content).1)
 else (⟨c.kind,c.path,c.attrs,c.target,0,[],[]⟩,q)
def Drf.stt (d:Drf):Stt:=⟨d.tree,d.holds⟩
def addP (d:Drf) (c:Chg):Drf × Int:=
 if entErr (recP d.sto c).1≠0 then (d,entErr (recP d.sto c).1)
 else if c.kind≠1∧c.content≠ [] then (d,1)
 else if 400≤d.ents.length∨14680064<(recP d.sto c).2.str.length then (d,6)
 else if (stpP d.stt (recP d.sto c).1 d.date).2≠0 then (d,(stpP d.stt (recP d.sto c).1 d.date).2)
 else (⟨d.num,d.date,d.prev,d.ents++ [(recP d.sto c).1],(recP d.sto c).2,(stpP d.stt (recP d.sto c).1 d.date).1.tree,(stpP d.stt (recP d.sto c).1 d.date).1.holds⟩,0)
def closeP (d:Drf):Ses:=⟨d.num,d.date,d.prev,d.ents,d.sto.str,[]⟩
def addsP:Drf→Nat→List Chg→Drf × Nat × Int
 |d,i,[]=>(d,i,0)
 |d,i,c::l=>if (addP d c).2≠0 then (d,i,(addP d c).2) else addsP (addP d c).1 (i+1) l
def stoE (st:List Bytes) (q:Sto) (e:Ent):Sto:=if e.kind=1 then (putP q (getP st e.exts).1).1 else q
def stoS (st:List Bytes) (q:Sto) (x:Ses):Sto:=x.ents.foldl (stoE st) (beginP q x.num).1
def nilQ:Sto:=⟨[],0,[]⟩
def strsP (L:List Ses):List Bytes:=L.map fun x=>x.stream
def repQ (L:List Ses):Sto:=L.foldl (stoS (strsP L)) nilQ
def lastDig (L:List Ses):Bytes:=match L.getLast? with|none=> []|some x=>sumP (sesText x)
def lastDt (L:List Ses):Int:=match L.getLast? with|none=>0|some x=>x.date
def openP (L:List Ses) (date:Int):Drf:=⟨(L.length:Nat)+1,date,lastDig L,[],⟨(repQ L).cks,(L.length:Nat)+1,[]⟩,(aftS nilS L).tree,actP (aftS nilS L).holds date⟩
def begErr (L:List Ses) (date:Int):Int:=if 255≤L.length then 6 else if date<0∨1000000000<date then 2 else if date<lastDt L then 14 else 0
def begP (L:List Ses) (date:Int):Drf × Int:=if begErr L date≠0 then (nilD,begErr L date) else (openP L date,0)
def appErr (L:List Ses) (s:Ses):Int:=if 255≤L.length then 6 else if s.num≠(L.length:Nat)+1∨(L≠ []∧s.date<lastDt L) then 14 else if s.prev≠lastDig L then 20 else 0
def appP (L:List Ses) (s:Ses):List Ses × Int:=if appErr L s≠0 then (L,appErr L s) else (L++ [s],0)
def wrtP (L:List Ses) (date:Int) (l:List Chg):List Ses × Nat × Int:=
 if begErr L date≠0 then (L,0,begErr L date)
 else if (addsP (openP L date) 0 l).2.2≠0 then (L,(addsP (openP L date) 0 l).2.1,(addsP (openP L date) 0 l).2.2)
 else (L++ [closeP (addsP (openP L date) 0 l).1],l.length,0)
theorem Xx2 {l:List Xt} {x y:Xt} (h:y∈addX l x) {m:Int} (hl:∀z∈l,z.s≤m) (hx:x.s≤m):y.s≤m:=by
 unfold addX at h
 split at h
 ·rw [List.mem_singleton.1 h];exact hx
 ·rename_i z hz
  split at h
  ·rcases List.mem_append.1 h with h|h
   ·exact hl y (List.dropLast_subset _ h)
   ·rw [List.mem_singleton.1 h];exact hl z (List.mem_of_getLast? hz)
  ·rcases List.mem_append.1 h with h|h
   ·exact hl y h
   ·rw [List.mem_singleton.1 h];exact hx
structure CkW (m:Int) (c:Ck):Prop where
 x:XB 65536 c.x
 s:c.x.s≤m
 d:c.d.length≤32
theorem Xxl (s:Bytes):(sumP s).length≤32:=Xde s
structure StoW (q:Sto):Prop where
 s0:1≤q.ses
 s1:q.ses≤255
 str:q.str.length≤4294901760
 cx:∀c∈q.cks,CkW q.ses c
structure StB (q:Sto) (b:Nat) (p:Sto × List Xt):Prop where
 ses:p.1.ses=q.ses
 str:p.1.str.length≤q.str.length+b
 cks:p.1.cks.length≤q.cks.length+b
 len:p.2.length≤b
 cx:∀c∈p.1.cks,CkW q.ses c
 xs:∀x∈p.2,XB (65536*b) x
 x0:∀x∈p.2,x.s≤q.ses
theorem StB.add {q:Sto} {b n:Nat} {p:Sto × List Xt} (h:StB q b p) (hn:1≤n) {x:Xt} (hx:XB 65536 x) (hs:x.s≤q.ses):StB q (b+n) (p.1,addX p.2 x):=
 ⟨h.ses,Nat.le_trans h.str (by omega),Nat.le_trans h.cks (by omega),by have:=(Xot p.2 x).1;have:=h.len;show (addX p.2 x).length≤_;omega,h.cx,
   fun z hz=>(Xsm (by decide) h.xs hx (by omega) z hz).mono (by omega),fun z hz=>Xx2 hz h.x0 hs⟩
theorem Xsz {q:Sto} (hq:StoW q) {b:Nat} {p:Sto × List Xt} (h:StB q b p) {c:Bytes} (hc:c≠ []) (hb:b+c.length≤65536):StB q (b+c.length) (putO p c):=by
 have hl:=List.length_pos_iff.2 hc
 have hs:=h.ses
 obtain ⟨s,l⟩:=p
 cases hf:findX s.cks (sumP c) with
 |some x=>
  obtain ⟨k,hk,rfl⟩:=Xht hf
  rw [Xmu hf]
  exact h.add hl (h.cx k hk).x (h.cx k hk).s
 |none=>
  have h1:=h.str
  have h2:=hq.str
  have h3:=hq.s0
  have h4:=hq.s1
  dsimp only at h1 hs
  have hx:XB 65536 (newX s c)∧(newX s c).s≤q.ses:=by
   unfold XB newX
   simp only
   omega
  have ha:=h.add hl hx.1 hx.2
  rw [Xmt hf]
  refine ⟨hs,?_,?_,ha.len,fun k hk=> ?_,ha.xs,ha.x0⟩
  ·have:=h.str;simp at *;omega
  ·have:=h.cks;simp at *;omega
  ·rcases List.mem_append.1 hk with hk|hk
   ·exact h.cx k hk
   ·rw [List.mem_singleton.1 hk];exact ⟨hx.1,hx.2,Xxl c⟩
theorem Xif {q:Sto} (hq:StoW q):∀ {l:List Bytes} {b:Nat} {p:Sto × List Xt},StB q b p→(∀c∈l,c≠ [])→b+l.flatten.length≤65536→StB q (b+l.flatten.length) (l.foldl putO p)
 | [],b,p,h,_,_=>by simpa using h
 |c::l,b,p,h,hl,hb=>by
  rw [List.flatten_cons,List.length_append] at hb ⊢
  have:=Xif hq (Xsz hq h (hl c (List.mem_cons_self ..)) (by omega)) (fun x hx=>hl x (List.mem_cons_of_mem _ hx)) (by omega)
  rw [List.foldl_cons,←Nat.add_assoc]
  exact this
theorem Xi4 {q:Sto} (hq:StoW q):∀ {l:List Sg} {b:Nat} {p:Sto × List Xt},StB q b p→(∀g∈l,(g.n=0∧g.d≠ [])∨(0<g.n∧g.d= []))→b+segSz l≤65536→StB q (b+segSz l) (l.foldl putG p)
 | [],b,p,h,_,_=>by simpa [segSz] using h
 |g::l,b,p,h,hl,hb=>by
  rw [Xd9] at hb ⊢
  have hr:=fun x hx=>hl x (List.mem_cons_of_mem _ hx)
  rw [List.foldl_cons,←Nat.add_assoc]
  rcases hl g (List.mem_cons_self ..) with ⟨h0,h1⟩|⟨h0,h1⟩
  ·rw [putG,if_neg h1]
   have e:=Xdl g.d
   have h2:=Xif hq (l:=chunksP g.d) h Xr8 (by rw [e];omega)
   rw [e] at h2
   have h3:=Xi4 hq (l:=l) (b:=b+(g.n.toNat+g.d.length)) (by rw [h0];simpa using h2) hr (by omega)
   exact h3
  ·rw [putG,if_pos h1]
   have hq0:=hq.s0
   have h2:=h.add (n:=g.n.toNat+g.d.length) (by omega) (x:=⟨0,0,g.n⟩) (by unfold XB;simp only;omega) (by show (0:Int)≤_;omega)
   exact Xi4 hq h2 hr (by omega)
theorem Xqz {q:Sto} (hq:StoW q) {c:Bytes} (hc:c.length≤65536):StB q c.length ((putP q c).1,(putP q c).2.1)∧(putP q c).2.2=0:=by
 have h1:=hq.s0
 have h2:=hq.s1
 have h:=Xi4 hq (l:=segsP c) (b:=0) (p:=(q,[])) ⟨rfl,Qn _,Qn _,Qn _,hq.cx,fun _ h=>(by cases h),fun _ h=>(by cases h)⟩ Xe1 (by rw [Xe0];omega)
 rw [Xe0,Nat.zero_add] at h
 rw [putP,if_neg (by omega),if_neg (by omega)]
 exact ⟨h,rfl⟩
theorem Xn7 {st:List Bytes}:∀ {l:List Xt} {out:Bytes},out.length≤65536→(getG st l out).1.length≤65536
 | [],out,h=>h
 |x::l,out,h=>by
  rw [getG]
  split
  ·simp
  ·rename_i h1
   split
   ·simp
   ·split
    ·simp
    ·rename_i h2 h3
     refine Xn7 ?_
     rw [List.length_append]
     split
     ·rw [List.length_replicate];omega
     ·rw [List.length_take];omega
theorem Xn5 (st:List Bytes) (l:List Xt):(getP st l).1.length≤65536:=Xn7 (by simp)
end Go.Proofs.YtjdednajelommaaGreatDoor
namespace Go.Proofs.YtjdednajelommaaGreatDoor
structure Chg.Wf (c:Chg):Prop where
 k0: -9223372036854775808≤c.kind
 k1:c.kind≤9223372036854775807
 path:c.path.length≤4294967280
 attrs:∀x∈c.attrs,x.Wf
 target:c.target.length≤4294967280
 content:c.content.length≤65536
theorem Xj5 {e:Ent} (h:entErr e=0):e.Wf:=by
 have k:=Xeg h
 have:=k.path;have:=k.target;have:=k.digest;have:=k.k1;have:=k.k6;have:=k.s0;have:=k.s1
 refine ⟨by omega,by omega,by omega,fun x hx=> ?_,by omega,by omega,by omega,by omega,fun x hx=> ?_⟩
 ·have:=k.att x hx
  exact ⟨by omega,by omega⟩
 ·have:=k.xts x hx
  exact ⟨⟨by omega,by omega⟩,⟨by omega,by omega⟩,⟨by omega,by omega⟩⟩
structure DrOk (n:Nat) (d:Drf):Prop where
 st:SIn n d.stt
 ents:d.ents.length≤n
 s0:1≤d.sto.ses
 s1:d.sto.ses≤255
 str:d.sto.str.length≤65536*n
 cks:d.sto.cks.length≤65536*n
 cx:∀c∈d.sto.cks,CkW d.sto.ses c
 date:0≤d.date∧d.date≤1000000000
theorem DrOk.mono {n m:Nat} {d:Drf} (h:DrOk n d) (hm:n≤m):DrOk m d:=
 ⟨h.st.mono hm,Nat.le_trans h.ents hm,h.s0,h.s1,Nat.le_trans h.str (by omega),Nat.le_trans h.cks (by omega),h.cx,h.date⟩
theorem DrOk.sto {n:Nat} {d:Drf} (h:DrOk n d) (hn:n≤60000):StoW d.sto:=⟨h.s0,h.s1,by have:=h.str;omega,h.cx⟩
structure RecB (q:Sto) (b:Nat) (r:Ent × Sto):Prop where
 ses:r.2.ses=q.ses
 str:r.2.str.length≤q.str.length+b
 cks:r.2.cks.length≤q.cks.length+b
 cx:∀c∈r.2.cks,CkW q.ses c
 len:r.1.exts.length≤b
 xs:∀x∈r.1.exts,XB (65536*b) x
 x0:∀x∈r.1.exts,x.s≤q.ses
theorem Xqw {q:Sto} (hq:StoW q) {c:Chg} (hc:c.content.length≤65536):RecB q c.content.length (recP q c):=by
 unfold recP
 split
 ·have h:=(Xqz hq hc).1
  exact ⟨h.ses,h.str,h.cks,h.cx,h.len,h.xs,h.x0⟩
 ·exact ⟨rfl,Nat.le_add_right _ _,Nat.le_add_right _ _,hq.cx,Nat.zero_le _,fun _ h=>(by cases h),fun _ h=>(by cases h)⟩
theorem Xxm (s:Bytes):(sumP s).length≤32:=Xde s
theorem Xqv {q:Sto} (hq:StoW q) {c:Chg} (hc:c.Wf):(recP q c).1.Wf:=by
 have hl:=hc.content
 have hb:=Xqw hq hl
 have hx:∀x∈(recP q c).1.exts,x.Wf:=fun x hx=>by
  have:=hb.xs x hx
  unfold XB at this
  exact ⟨⟨by omega,by omega⟩,⟨by omega,by omega⟩,⟨by omega,by omega⟩⟩
 have hp:=hc.path
 have ht:=hc.target
 have hs:=Xxm c.content
 unfold recP at hx ⊢
 split
 ·rename_i hk
  rw [if_pos hk] at hx
  exact ⟨hc.k0,hc.k1,by show c.path.length≤_;omega,hc.attrs,by show c.target.length≤_;omega,by show _≤((c.content.length:Nat):Int);omega,by show ((c.content.length:Nat):Int)≤_;omega,by show (sumP c.content).length≤_;omega,hx⟩
 ·exact ⟨hc.k0,hc.k1,by show c.path.length≤_;omega,hc.attrs,by show c.target.length≤_;omega,by show (-9223372036854775808:Int)≤0;decide,by show (0:Int)≤9223372036854775807;decide,by show (0:Nat)≤9223372036854775807;decide,fun _ h=>(by cases h)⟩
theorem Xpb (q:Sto) (c:Chg):(recP q c).1.kind=c.kind∧(recP q c).1.path=c.path∧(recP q c).1.attrs=c.attrs∧(recP q c).1.target=c.target:=by
 unfold recP
 split<;>exact ⟨rfl,rfl,rfl,rfl⟩
theorem Xd4 {e:Ent} (h:entErr e=0):e.path.length≤300∧e.target.length≤300:=by
 have k:=Xeg h
 have:=k.path;have:=k.target
 omega
theorem Xd8 (d:Drf) (c:Chg):((addP d c).2≠0∧(addP d c).1=d)∨((addP d c).2=0∧entErr (recP d.sto c).1=0∧(c.kind=1∨c.content= [])∧d.ents.length<400∧(recP d.sto c).2.str.length≤14680064∧(stpP d.stt (recP d.sto c).1 d.date).2=0∧
 (addP d c).1=⟨d.num,d.date,d.prev,d.ents++ [(recP d.sto c).1],(recP d.sto c).2,(stpP d.stt (recP d.sto c).1 d.date).1.tree,(stpP d.stt (recP d.sto c).1 d.date).1.holds⟩):=by
 unfold addP
 by_cases h1:entErr (recP d.sto c).1≠0
 ·rw [if_pos h1];exact .inl ⟨h1,rfl⟩
 rw [if_neg h1]
 by_cases h2:c.kind≠1∧c.content≠ []
 ·rw [if_pos h2];exact .inl ⟨(by decide:(1:Int)≠0),rfl⟩
 rw [if_neg h2]
 by_cases h3:400≤d.ents.length∨14680064<(recP d.sto c).2.str.length
 ·rw [if_pos h3];exact .inl ⟨(by decide:(6:Int)≠0),rfl⟩
 rw [if_neg h3]
 by_cases h4:(stpP d.stt (recP d.sto c).1 d.date).2≠0
 ·rw [if_pos h4];exact .inl ⟨h4,rfl⟩
 rw [if_neg h4]
 refine .inr ⟨rfl,by omega,?_,by omega,by omega,by omega,rfl⟩
 by_cases hk:c.kind=1
 ·exact .inl hk
 ·exact .inr (Classical.byContradiction fun q=>h2 ⟨hk,q⟩)
theorem Xsl {n:Nat} {d:Drf} (h:DrOk n d) (hn:n≤60000) {c:Chg} (hc:c.content.length≤65536):DrOk (n+1) (addP d c).1:=by
 rcases Xd8 d c with ⟨_,e⟩|⟨_,h1,_,_,_,h5,e⟩
 ·rw [e];exact h.mono (by omega)
 ·have hb:=Xqw (h.sto hn) hc
  have hs:=Xd4 h1
  have hst:=Xi3 h.st (recP d.sto c).1 d.date hs.1 hs.2
  rw [e]
  have:=h.ents;have:=hb.str;have:=hb.cks;have:=h.str;have:=h.cks
  refine ⟨hst,by simp;omega,by rw [hb.ses];exact h.s0,by rw [hb.ses];exact h.s1,by show (recP d.sto c).2.str.length≤_;omega,by show (recP d.sto c).2.cks.length≤_;omega,fun k hk=> ?_,h.date⟩
  show CkW (recP d.sto c).2.ses k
  rw [hb.ses]
  exact hb.cx k hk
theorem Xxj (l:List Ho) (d:Int):actP (actP l d) d=actP l d:=by
 unfold actP
 rw [List.filter_filter]
 simp
theorem Xsk {h h':List Ho} {d:Int} (hh:actP h d=actP h' d) (k:Int) (p:Bytes):alwP h k p d=alwP h' k p d:=by
 unfold alwP heldP belowP
 rw [hh]
theorem Xsh {h h':List Ho} {d:Int} (hh:actP h d=actP h' d) (e:Ent):appH h e d=appH h' e d:=by
 unfold appH
 rw [hh]
theorem Xp8 {t:List Ent} {h h':List Ho} {d:Int} (hh:actP h d=actP h' d) (e:Ent):
 (stpP ⟨t,h⟩ e d).2=(stpP ⟨t,h'⟩ e d).2∧((stpP ⟨t,h'⟩ e d).2=0→(stpP ⟨t,h⟩ e d).1=(stpP ⟨t,h'⟩ e d).1):=by
 have ha:askP ⟨t,h⟩ e d=askP ⟨t,h'⟩ e d:=by
  unfold askP
  dsimp only
  rw [Xsk hh]
 unfold stpP
 rw [ha]
 dsimp only
 rw [Xsh hh]
 by_cases h1:(applyT t e).2≠0
 ·rw [if_pos h1,if_pos h1];exact ⟨rfl,fun q=>absurd q h1⟩
 rw [if_neg h1,if_neg h1]
 by_cases h2:askP ⟨t,h'⟩ e d≠0
 ·rw [if_pos h2,if_pos h2];exact ⟨rfl,fun q=>absurd q h2⟩
 rw [if_neg h2,if_neg h2]
 by_cases h3:(appH h' e d).2≠0
 ·rw [if_pos h3,if_pos h3];exact ⟨rfl,fun q=>absurd q h3⟩
 rw [if_neg h3,if_neg h3]
 exact ⟨rfl,fun _=>rfl⟩
theorem Xix {d:Int} {e:Ent}:∀ {l:List Ent} {s:Stt},AllOk d s l→(stpP (runS s d l) e d).2=0→AllOk d s (l++ [e])
 | [],s,_,h=>⟨h,trivial⟩
 |x::l,s,⟨h1,h2⟩,h=>⟨h1,Xix h2 h⟩
theorem Xop {d:Int}:∀ {l:List Ent} {s:Stt},AllOk d s l→ ∀(j:Nat) (h:j<l.length),(stpP (runS s d (l.take j)) l[j] d).2=0
 |x::l,s,⟨h1,h2⟩,0,_=>h1
 |x::l,s,⟨h1,h2⟩,j+1,h=>Xop h2 j (by simpa using h)
theorem Xh2 {x:Ses}:∀ {L:List Ses} {s:Stt},AllSes s L→AllOk x.date (aftS s L) x.ents→AllSes s (L++ [x])
 | [],s,_,h=>⟨h,trivial⟩
 |y::L,s,⟨h1,h2⟩,h=>⟨h1,Xh2 h2 h⟩
theorem Xl4:∀ {L:List Ses} {s:Stt},AllSes s L→ ∀(k:Nat) (h:k<L.length),AllOk L[k].date (aftS s (L.take k)) L[k].ents
 |x::L,s,⟨h1,h2⟩,0,_=>h1
 |x::L,s,⟨h1,h2⟩,k+1,h=>Xl4 h2 k (by simpa using h)
theorem Xl5 {d:Int}:∀ {l:List Ent} {s:Stt},AllOk d s l→ ∀e∈l,entErr e=0
 | [],_,_,e,he=>by cases he
 |x::l,s,⟨h1,h2⟩,e,he=>by
  rcases List.mem_cons.1 he with rfl|he
  ·exact (Xqa h1).2.2
  ·exact Xl5 h2 e he
structure SesW (i:Nat) (x:Ses):Prop where
 num:x.num=(i:Nat)+1
 date:0≤x.date∧x.date≤1000000000
 prev:x.prev.length≤32
 sl:x.sl= []
 stream:x.stream.length≤14680064
 exts:∀e∈x.ents,e.exts.length≤1000
 xs:∀e∈x.ents,∀y∈e.exts,0≤y.s∧y.s≤(i:Nat)+1
structure ArcOk (n m:Nat) (L:List Ses):Prop where
 len:L.length≤m
 tot:(pairs L).length≤n
 all:AllSes nilS L
 ses:∀i x,L[i]? =some x→SesW i x
theorem Xne:ArcOk 0 0 []:=⟨Qn _,Qn _,trivial,fun i x h=>by simp at h⟩
theorem ArcOk.mono {n m n' m':Nat} {L:List Ses} (h:ArcOk n m L) (hn:n≤n') (hm:m≤m'):ArcOk n' m' L:=⟨Nat.le_trans h.len hm,Nat.le_trans h.tot hn,h.all,h.ses⟩
theorem ArcOk.at_ {n m:Nat} {L:List Ses} (h:ArcOk n m L) {k:Nat} (hk:k<L.length) {x:Ses} (hx:L[k]=x):SesW k x:=h.ses k x (by rw [List.getElem?_eq_getElem hk,hx])
theorem ArcOk.okAt {n m:Nat} {L:List Ses} (h:ArcOk n m L) {k:Nat} (hk:k<L.length) {x:Ses} (hx:L[k]=x):AllOk x.date (aftS nilS (L.take k)) x.ents:=by
 have:=Xl4 h.all k hk
 rw [hx] at this;exact this
theorem ArcOk.err {n m:Nat} {L:List Ses} (h:ArcOk n m L) {x:Ses} (hx:x∈L):∀e∈x.ents,entErr e=0:=by
 obtain ⟨k,hk,e⟩:=List.getElem_of_mem hx
 exact Xl5 (h.okAt hk e)
theorem Xdu (a b:List Ses):pairs (a++b)=pairs a++pairs b:=by simp [pairs]
theorem Xfr (x:Ses):(pairs [x]).length=x.ents.length:=by simp [pairs]
theorem Xfb {L:List Ses} {k:Nat} (hk:k<L.length) {x:Ses} (hx:L[k]=x):(pairs (L.take k)).length+x.ents.length≤(pairs L).length:=by
 have e:L=L.take k++([x]++L.drop (k+1)):=by
  rw [←hx]
  simp
 have:=congrArg (fun l=>(pairs l).length) e
 simp only [Xdu,List.length_append,Xfr] at this
 omega
theorem ArcOk.ents {n m:Nat} {L:List Ses} (h:ArcOk n m L) {x:Ses} (hx:x∈L):x.ents.length≤n:=by
 obtain ⟨k,hk,e⟩:=List.getElem_of_mem hx
 have:=Xfb hk e
 have:=h.tot
 omega
theorem Xpg {L:List Ses} {k:Nat} (hk:k<L.length) {x:Ses} (hx:L[k]=x):(pairs (L.take (k+1))).length=(pairs (L.take k)).length+x.ents.length:=by
 rw [List.take_succ_eq_append_getElem hk,hx,Xdu,List.length_append,Xfr]
theorem ArcOk.sin {n m:Nat} {L:List Ses} (h:ArcOk n m L) {k:Nat} (hk:k<L.length) {x:Ses} (hx:L[k]=x) (j:Nat) (hj:j≤x.ents.length):SIn n (runS (aftS nilS (L.take k)) x.date (x.ents.take j)):=by
 have hp:=Xfb hk hx
 have ht:=h.tot
 have h1:SIn (0+(pairs (L.take k)).length) (aftS nilS (L.take k)):=by
  rw [Xh3]
  refine Xjn _ Xqi fun q hq=> ?_
  obtain ⟨s,hs,hq'⟩:=List.mem_flatMap.1 hq
  obtain ⟨e,he,rfl⟩:=List.mem_map.1 hq'
  exact Xd4 (h.err (List.mem_of_mem_take hs) e he)
 have h2:=Xqo (x.ents.take j) h1 x.date fun e he=>Xd4 (h.err (by rw [←hx];exact List.getElem_mem hk) e (List.mem_of_mem_take he))
 refine h2.mono ?_
 rw [List.length_take]
 omega
theorem ArcOk.sinAll {n m:Nat} {L:List Ses} (h:ArcOk n m L):SIn n (aftS nilS L):=by
 have h1:SIn (0+(pairs L).length) (aftS nilS L):=by
  rw [Xh3]
  refine Xjn _ Xqi fun q hq=> ?_
  obtain ⟨s,hs,hq'⟩:=List.mem_flatMap.1 hq
  obtain ⟨e,he,rfl⟩:=List.mem_map.1 hq'
  exact Xd4 (h.err hs e he)
 exact h1.mono (by have:=h.tot;omega)
structure RpB (i b:Nat) (q:Sto):Prop where
 ses:q.ses=(i:Nat)
 str:q.str.length≤65536*b
 cks:q.cks.length≤65536*b
 cx:∀c∈q.cks,CkW q.ses c
theorem Xv5:RpB 0 0 nilQ:=⟨rfl,Qn _,Qn _,fun _ h=>(by cases h)⟩
theorem RpB.mono {i b c:Nat} {q:Sto} (h:RpB i b q) (hc:b≤c):RpB i c q:=⟨h.ses,Nat.le_trans h.str (by omega),Nat.le_trans h.cks (by omega),h.cx⟩
theorem RpB.begin {i b:Nat} {q:Sto} (h:RpB i b q) (hi:i<255):beginP q ((i:Nat)+1)=(⟨q.cks,(i:Nat)+1,[]⟩,0)∧RpB (i+1) b ⟨q.cks,(i:Nat)+1,[]⟩:=by
 have hs:=h.ses
 refine ⟨by rw [beginP,if_neg (by omega),if_neg (by omega)],by show ((i:Nat):Int)+1=((i+1:Nat):Int);omega,Nat.zero_le _,h.cks,fun c hc=>⟨(h.cx c hc).x,?_,(h.cx c hc).d⟩⟩
 have:=(h.cx c hc).s
 show c.x.s≤(i:Int)+1
 omega
theorem RpB.stoW {i b:Nat} {q:Sto} (h:RpB i b q) (h0:1≤i) (h1:i≤255) (hb:b≤60000):StoW q:=⟨by rw [h.ses];omega,by rw [h.ses];omega,by have:=h.str;omega,h.cx⟩
theorem RpB.step {i b:Nat} {q:Sto} (h:RpB i b q) (h0:1≤i) (h1:i≤255) (hb:b≤60000) (st:List Bytes) (e:Ent):RpB i (b+1) (stoE st q e):=by
 unfold stoE
 split
 ·have hl:=Xn5 st e.exts
  have hp:=(Xqz (h.stoW h0 h1 hb) hl).1
  have h1:=hp.str;have h2:=hp.cks;have h3:=h.str;have h4:=h.cks
  dsimp only at h1 h2
  exact ⟨by rw [hp.ses];exact h.ses,by omega,by omega,fun c hc=>by rw [hp.ses];exact hp.cx c hc⟩
 ·exact h.mono (by omega)
theorem RpB.fold {i:Nat} (h0:1≤i) (h1:i≤255) (st:List Bytes):∀(l:List Ent) {b:Nat} {q:Sto},RpB i b q→b+l.length≤60000→RpB i (b+l.length) (l.foldl (stoE st) q)
 | [],b,q,h,_=>h
 |e::l,b,q,h,hb=>by
  rw [List.length_cons] at hb ⊢
  have:=RpB.fold h0 h1 st l (h.step h0 h1 (by omega) st e) (by omega)
  rw [show b+(l.length+1)=b+1+l.length by omega]
  exact this
def repK (st:List Bytes) (L:List Ses) (k:Nat):Sto:=(L.take k).foldl (stoS st) nilQ
theorem Xdt (st:List Bytes) {L:List Ses} {k:Nat} (hk:k<L.length) {x:Ses} (hx:L[k]=x):repK st L (k+1)=stoS st (repK st L k) x:=by
 unfold repK
 rw [List.take_succ_eq_append_getElem hk,hx,List.foldl_append];rfl
theorem Xeb (L:List Ses):repK (strsP L) L L.length=repQ L:=by unfold repK repQ;rw [List.take_length]
theorem ArcOk.rep {n m:Nat} {L:List Ses} (h:ArcOk n m L) (hn:n≤60000) (hm:m≤254) (st:List Bytes):∀k,k≤L.length→RpB k (pairs (L.take k)).length (repK st L k)
 |0,_=>Xv5
 |k+1,hk=>by
  have ih:=h.rep hn hm st k (by omega)
  have hl:=h.len
  obtain ⟨x,hx⟩:∃x,L[k]=x:=⟨_,rfl⟩
  have hp:=Xfb (show k<L.length by omega) hx
  have ht:=h.tot
  rw [Xdt st (by omega) hx,stoS,(h.at_ (by omega) hx).num,(ih.begin (by omega)).1]
  have:=RpB.fold (i:=k+1) (by omega) (by omega) st x.ents (ih.begin (by omega)).2 (by omega)
  rw [Xpg (by omega) hx]
  exact this
theorem ArcOk.repAll {n m:Nat} {L:List Ses} (h:ArcOk n m L) (hn:n≤60000) (hm:m≤254):RpB L.length n (repQ L):=by
 have:=h.rep hn hm (strsP L) L.length (Qn _)
 rw [Xeb,List.take_length] at this
 exact this.mono h.tot
theorem Xk9 (st:List Bytes) (k:Nat):∀ {l:List Xt} (out:Bytes),(∀x∈l,0≤x.s∧x.s≤(k:Nat))→k≤st.length→getG (st.take k) l out=getG st l out
 | [],_,_,_=>rfl
 |x::l,out,h,hk=>by
  have hx:=h x (List.mem_cons_self ..)
  have ih:=fun o=>Xk9 st k (l:=l) o (fun y hy=>h y (List.mem_cons_of_mem _ hy)) hk
  have h1:gBad (st.take k) x=gBad st x:=by
   unfold gBad
   rw [List.length_take,Qf (show ¬(((min k st.length:Nat):Int)<x.s) by omega),Qf (show ¬((st.length:Int)<x.s) by omega)]
  rw [getG,getG,h1]
  by_cases h0:x.s=0
  ·simp only [ih,h0]
   rfl
  ·have h2:strAtP (st.take k) x=strAtP st x:=by
    unfold strAtP
    rw [List.getD_eq_getElem?_getD,List.getD_eq_getElem?_getD,List.getElem?_take_of_lt (by omega)]
   simp only [ih,h2]
theorem Xk8 (st:List Bytes) (k:Nat) {l:List Xt} (h:∀x∈l,0≤x.s∧x.s≤(k:Nat)) (hk:k≤st.length):getP (st.take k) l=getP st l:=Xk9 st k [] h hk
end Go.Proofs.YtjdednajelommaaGreatDoor
namespace Go.Proofs.YtjdednajelommaaGreatDoor
theorem Xsd {L:List Ses} {date:Int} (h:begErr L date=0):L.length<255∧0≤date∧date≤1000000000∧lastDt L≤date:=by
 unfold begErr at h
 split at h
 ·omega
 ·split at h
  ·omega
  ·split at h
   ·omega
   ·omega
theorem Xm1 (L:List Ses):(lastDig L).length≤32:=by
 unfold lastDig
 split
 ·exact Nat.zero_le _
 ·exact Xde _
structure DrIn (L:List Ses) (d:Drf):Prop where
 num:d.num=(L.length:Nat)+1
 prev:d.prev=lastDig L
 last:lastDt L≤d.date
 ses:d.sto.ses=(L.length:Nat)+1
 str:d.sto.str.length≤14680064
 all:AllOk d.date (aftS nilS L) d.ents
 tree:d.tree=(runS (aftS nilS L) d.date d.ents).tree
 holds:actP d.holds d.date=actP (runS (aftS nilS L) d.date d.ents).holds d.date
 exts:∀e∈d.ents,e.exts.length≤1000
 xs:∀e∈d.ents,∀y∈e.exts,0≤y.s∧y.s≤(L.length:Nat)+1
theorem Xjh (L:List Ses) {date:Int} (h:begErr L date=0):DrIn L (openP L date):=
 ⟨rfl,rfl,(Xsd h).2.2.2,rfl,Nat.zero_le _,trivial,rfl,Xxj _ _,fun _ h=>(by cases h),fun _ h=>(by cases h)⟩
theorem Xg9 {n m:Nat} {L:List Ses} (h:ArcOk n m L) (hn:n≤60000) (hm:m≤254) {date:Int} (hb:begErr L date=0):DrOk n (openP L date):=by
 have hr:=h.repAll hn hm
 have hs:=h.sinAll
 have hbo:=Xsd hb
 have hses:=hr.ses
 refine ⟨⟨⟨hs.ok.tree,hs.ok.holds.act date,hs.ok.tlen,Nat.le_trans (List.length_filter_le _ _) hs.ok.hlen⟩,hs.sml⟩,Nat.zero_le _,?_,?_,Nat.zero_le _,hr.cks,fun c hc=>⟨(hr.cx c hc).x,?_,(hr.cx c hc).d⟩,hbo.2.1,hbo.2.2.1⟩
 ·show (1:Int)≤(L.length:Nat)+1;omega
 ·show ((L.length:Nat):Int)+1≤255;omega
 ·have:=(hr.cx c hc).s
  show c.x.s≤((L.length:Nat):Int)+1
  omega
theorem Xx1 {n:Nat} {L:List Ses} {d:Drf} (h:DrOk n d) (hn:n≤60000) (hi:DrIn L d) {c:Chg} (hc:c.content.length≤1000):DrIn L (addP d c).1:=by
 rcases Xd8 d c with ⟨_,e⟩|⟨_,h1,_,_,h4,h5,e⟩
 ·rw [e];exact hi
 ·have hb:=Xqw (h.sto hn) (show c.content.length≤65536 by omega)
  have ht:d.stt=⟨(runS (aftS nilS L) d.date d.ents).tree,d.holds⟩:=by rw [←hi.tree];rfl
  obtain ⟨k1,k2⟩:=Xp8 (t:=(runS (aftS nilS L) d.date d.ents).tree) hi.holds (recP d.sto c).1
  rw [←ht] at k1 k2
  have h5':(stpP (runS (aftS nilS L) d.date d.ents) (recP d.sto c).1 d.date).2=0:=by rw [h5] at k1;exact k1.symm
  have k3:=k2 h5'
  rw [e]
  have hrun:runS (aftS nilS L) d.date (d.ents++ [(recP d.sto c).1])=(stpP d.stt (recP d.sto c).1 d.date).1:=by rw [Xnr];exact k3.symm
  refine ⟨hi.num,hi.prev,hi.last,by show (recP d.sto c).2.ses=_;rw [hb.ses];exact hi.ses,h4,Xix hi.all h5',?_,?_,fun x hx=> ?_,fun x hx=> ?_⟩
  ·show _=(runS (aftS nilS L) d.date (d.ents++ [(recP d.sto c).1])).tree
   rw [hrun]
  ·show _=actP (runS (aftS nilS L) d.date (d.ents++ [(recP d.sto c).1])).holds d.date
   rw [hrun]
  ·rcases List.mem_append.1 hx with hx|hx
   ·exact hi.exts x hx
   ·rw [List.mem_singleton.1 hx];have:=hb.len;omega
  ·rcases List.mem_append.1 hx with hx|hx
   ·exact hi.xs x hx
   ·rw [List.mem_singleton.1 hx]
    intro y hy
    have hx0:=hb.xs y hy
    have hx1:=hb.x0 y hy
    rw [hi.ses] at hx1
    unfold XB at hx0
    exact ⟨hx0.1,hx1⟩
theorem Xun (d:Drf) (c:Chg):(addP d c).1.num=d.num∧(addP d c).1.date=d.date∧(addP d c).1.prev=d.prev∧(addP d c).1.ents.length≤d.ents.length+1:=by
 rcases Xd8 d c with ⟨_,e⟩|⟨_,_,_,_,_,_,e⟩
 ·rw [e];exact ⟨rfl,rfl,rfl,by omega⟩
 ·rw [e];exact ⟨rfl,rfl,rfl,by simp⟩
theorem Xgl {L:List Ses}:∀ {l:List Chg} {n:Nat} {d:Drf} (i:Nat),DrOk n d→n+l.length≤60000→DrIn L d→(∀c∈l,c.content.length≤1000)→
 DrOk (n+l.length) (addsP d i l).1∧DrIn L (addsP d i l).1∧(addsP d i l).1.date=d.date∧(addsP d i l).1.ents.length≤d.ents.length+l.length
 | [],n,d,i,h,_,hi,_=>⟨h,hi,rfl,Qn _⟩
 |c::l,n,d,i,h,hn,hi,hc=>by
  rw [List.length_cons] at hn
  have h1:=hc c (List.mem_cons_self ..)
  rw [addsP]
  split
  ·exact ⟨h.mono (by omega),hi,rfl,by simp⟩
  ·have ha:=Xsl h (by omega) (show c.content.length≤65536 by omega)
   obtain ⟨r1,r2,r3,r4⟩:=Xgl (i+1) ha (by omega) (Xx1 h (by omega) hi h1) (fun x hx=>hc x (List.mem_cons_of_mem _ hx))
   have hs:=Xun d c
   rw [List.length_cons]
   exact ⟨r1.mono (by omega),r2,r3.trans hs.2.1,by omega⟩
theorem Xuy {L:List Ses} {d:Drf} (hl:L.length<255) (hi:DrIn L d):appErr L (closeP d)=0:=by
 have h1:=hi.num;have h2:=hi.prev;have h3:=hi.last
 unfold appErr closeP
 dsimp only
 rw [if_neg (by omega),if_neg (by rintro (h|⟨_,h⟩)<;>omega),if_neg (by simpa using h2)]
theorem Xr5 {n m:Nat} {L:List Ses} (h:ArcOk n m L) {d:Drf} (hi:DrIn L d) (hd:0≤d.date∧d.date≤1000000000):ArcOk (n+d.ents.length) (m+1) (L++ [closeP d]):=by
 refine ⟨by rw [List.length_append];have:=h.len;simp;omega,by rw [Xdu,List.length_append,Xfr];have:=h.tot;show _+d.ents.length≤_;omega,Xh2 h.all hi.all,fun i x hx=> ?_⟩
 by_cases hl:i<L.length
 ·rw [List.getElem?_append_left hl] at hx
  exact h.ses i x hx
 ·rw [List.getElem?_append_right (by omega)] at hx
  obtain ⟨e,hx⟩:i-L.length=0∧closeP d=x:=by
   cases hh:i-L.length with
   |zero=>rw [hh] at hx;exact ⟨rfl,by simpa using hx⟩
   |succ k=>rw [hh] at hx;simp at hx
  have hil:i=L.length:=by omega
  subst hx hil
  exact ⟨hi.num,hd,by show d.prev.length≤_;rw [hi.prev];exact Xm1 L,rfl,hi.str,hi.exts,hi.xs⟩
theorem Xj3 {n m:Nat} {L:List Ses} (h:ArcOk n m L) {date:Int} {l:List Chg} (hn:n+l.length≤60000) (hm:m≤254) (hc:∀c∈l,c.content.length≤1000):ArcOk (n+l.length) (m+1) (wrtP L date l).1:=by
 unfold wrtP
 split
 ·exact h.mono (by omega) (by omega)
 ·rename_i hb
  have hb:begErr L date=0:=by omega
  split
  ·exact h.mono (by omega) (by omega)
  ·obtain ⟨r1,r2,r3,r4⟩:=Xgl 0 (Xg9 h (by omega) hm hb) hn (Xjh L hb) hc
   have:=Xr5 h r2 r1.date
   refine this.mono ?_ (Qn _)
   have e:(openP L date).ents.length=0:=rfl
   omega
end Go.Proofs.YtjdednajelommaaGreatDoor
namespace Go.Proofs.YtjdednajelommaaGreatDoor
open Go.RowKit
abbrev arcV (ai dt sp:Int) (vs:Value):Value:= .agg #[.int .u32 ai,.int .i64 dt,.int .i64 sp,vs]
abbrev drV (d:Drf) (ve vk vt vh:Value):Value:= .agg #[.int .i64 d.num,.int .i64 d.date,S d.prev,ve,vk,.int .i64 d.sto.ses,S d.sto.str,vt,vh]
structure DrB (w:World) (n:Nat) (d:Drf) (ve vk vt vh:Value):Prop where
 c0:w.cell? ⟨n,0,none⟩=some (.int .i64 d.num)
 c1:w.cell? ⟨n,1,none⟩=some (.int .i64 d.date)
 c2:w.cell? ⟨n,2,none⟩=some (S d.prev)
 c3:w.cell? ⟨n,3,none⟩=some ve
 c4:w.cell? ⟨n,4,none⟩=some vk
 c5:w.cell? ⟨n,5,none⟩=some (.int .i64 d.sto.ses)
 c6:w.cell? ⟨n,6,none⟩=some (S d.sto.str)
 c7:w.cell? ⟨n,7,none⟩=some vt
 c8:w.cell? ⟨n,8,none⟩=some vh
theorem DrB.thru {w w':World} {b:Nat} {d:Drf} {ve vk vt vh:Value} (h:DrB w b d ve vk vt vh) (hb:Below w.heap.size w w'):DrB w' b d ve vk vt vh:=
 ⟨Xaa hb h.c0,Xaa hb h.c1,Xaa hb h.c2,Xaa hb h.c3,Xaa hb h.c4,Xaa hb h.c5,Xaa hb h.c6,Xaa hb h.c7,Xaa hb h.c8⟩
theorem DrB.past {w:World} {b:Nat} {d:Drf} {ve vk vt vh:Value} (h:DrB w b d ve vk vt vh) (x:Obj):DrB (w.alloc x) b d ve vk vt vh:=
 ⟨Xai x h.c0,Xai x h.c1,Xai x h.c2,Xai x h.c3,Xai x h.c4,Xai x h.c5,Xai x h.c6,Xai x h.c7,Xai x h.c8⟩
theorem drB_row {w:World} {b:Nat} {d:Drf} {ve vk vt vh:Value} {t:TypeId} (h:w.heap[b]? =some (.cells #[.int .i64 d.num,.int .i64 d.date,S d.prev,ve,vk,.int .i64 d.sto.ses,S d.sto.str,vt,vh] t (0,0))):DrB w b d ve vk vt vh:=
 ⟨(cell_of_row w b 0 _ _ _ h).trans rfl,(cell_of_row w b 1 _ _ _ h).trans rfl,(cell_of_row w b 2 _ _ _ h).trans rfl,(cell_of_row w b 3 _ _ _ h).trans rfl,(cell_of_row w b 4 _ _ _ h).trans rfl,(cell_of_row w b 5 _ _ _ h).trans rfl,(cell_of_row w b 6 _ _ _ h).trans rfl,(cell_of_row w b 7 _ _ _ h).trans rfl,(cell_of_row w b 8 _ _ _ h).trans rfl⟩
theorem ArcOk.sesD {n m:Nat} {L:List Ses} (h:ArcOk n m L) (hn:n≤400) (hm:m≤254):∀x∈L,SesD x:=fun x hx=>by
 obtain ⟨k,hk,e⟩:=List.getElem_of_mem hx
 have hs:=h.at_ hk e
 have hl:=h.len
 exact ⟨by rw [hs.num];omega,hs.date,hs.prev,hs.stream,Nat.le_trans (h.ents hx) hn,h.err hx,fun e he=>Xj5 (h.err hx e he),hs.exts⟩
theorem Xb0 (L:List Ses):L= []∨ ∃k,∃hk:k<L.length,L.length=k+1∧L.getLast? =some L[k]:=by
 rcases Nat.eq_zero_or_pos L.length with h|h
 ·exact .inl (List.eq_nil_of_length_eq_zero h)
 ·refine .inr ⟨L.length-1,by omega,by omega,?_⟩
  rw [List.getLast?_eq_getElem?,List.getElem?_eq_getElem (by omega)]
set_option maxRecDepth 100000 in
set_option maxHeartbeats 1000000 in
theorem Xgt (I:IH) (hI:Glob I) (ai dt sp:Int) (L:List Ses) (vs:Value) (hvs:RdS tSes I vs L) (hL:∀x∈L,SesD x) (w:World) (hw:Ok I w):
 Calls Tryz.prog 44 #[arcV ai dt sp vs] w fun e w'=>e= .returned (S (lastDig L))∧Below w.heap.size w w':=by
 obtain ⟨ao,co,rfl,_,_,_⟩:=id hvs
 rcases Xb0 L with rfl|⟨k,hk,hlen,hlast⟩
 ·go_enter Tryz.func44,Tryz.ntmps44
  go_wp2
  go_ret
  exact ⟨rfl,(Qb _ _).alloc (Qn _) _⟩
 ·have Hn:=Qh (show lastDig L=sumP (sesText L[k]) by unfold lastDig;rw [hlast])
  obtain ⟨x,ve,b,off,cap',hlx,hvv,hat,hve⟩:=Xfn hvs (hw.alloc (.cells #[.int .u32 ai,.int .i64 dt,.int .i64 sp,.slice ao L.length co] 30)) k hk
  cases hvv
  obtain ⟨c0,c1,c2,c3,c4,c5⟩:=hat
  have Hd:=Qh (fun w hw=>Xqg I hI x ve hve (hL x (by rw [←hlx];exact List.getElem_mem hk)) w hw)
  rw [hlx] at Hn
  have m1:IntKind.i64.wrap (k:Int)=(k:Int):=IntWalk.i64_in _ (by have:=hvs.len_le;omega)
  have z1:(((k+1:Nat):Int)==0)=false:=by simp;omega
  have i1:(k:Int)<((k+1:Nat):Int):=by omega
  rw [Hn.out]
  rw [hlen] at c0 c1 c2 c3 c4 c5 ⊢
  clear hvs hlx hlast hlen hve Hn
  go_enter Tryz.func44,Tryz.ntmps44
  go_wp2_with fail
  refine (Hd.out _ (hw.alloc _)).mono ?_
  rintro e w1 ⟨rfl,hb1⟩
  go_wp2
  go_ret
  exact ⟨rfl,((Qb _ _).alloc (Qn _) _).trans (hb1.mono (by simp))⟩
set_option maxRecDepth 100000 in
set_option maxHeartbeats 1000000 in
theorem Xs7 (I:IH) (ai dt sp:Int) (L:List Ses) (vs:Value) (hvs:RdS tSes I vs L) (hL:∀x∈L,SesD x) (w:World) (hw:Ok I w):
 Calls Tryz.prog 47 #[arcV ai dt sp vs] w fun e w'=>e= .returned (S (lastDig L))∧Below w.heap.size w w':=by
 obtain ⟨ao,co,rfl,_,_,_⟩:=id hvs
 rcases Xb0 L with rfl|⟨k,hk,hlen,hlast⟩
 ·go_enter Tryz.func47,Tryz.ntmps47
  go_wp2
  go_ret
  exact ⟨rfl,(Qb _ _).alloc (Qn _) _⟩
 ·have Hn:=Qh (show lastDig L=sumP (sesText L[k]) by unfold lastDig;rw [hlast])
  obtain ⟨x,ve,b,off,cap',hlx,hvv,hat,hve⟩:=Xfn hvs (hw.alloc (.cells #[.int .u32 ai,.int .i64 dt,.int .i64 sp,.slice ao L.length co] 30)) k hk
  cases hvv
  obtain ⟨c0,c1,c2,c3,c4,c5⟩:=hat
  have Hd:=Qh (fun w hw=>Xpc I x ve hve (hL x (by rw [←hlx];exact List.getElem_mem hk)) w hw)
  rw [hlx] at Hn
  have m1:IntKind.i64.wrap (k:Int)=(k:Int):=IntWalk.i64_in _ (by have:=hvs.len_le;omega)
  have z1:(((k+1:Nat):Int)==0)=false:=by simp;omega
  have i1:(k:Int)<((k+1:Nat):Int):=by omega
  rw [Hn.out]
  rw [hlen] at c0 c1 c2 c3 c4 c5 ⊢
  clear hvs hlx hlast hlen hve Hn
  go_enter Tryz.func47,Tryz.ntmps47
  go_wp2_with fail
  refine (Hd.out _ (hw.alloc _)).mono ?_
  rintro e w1 ⟨rfl,hb1⟩
  go_wp2
  go_ret
  exact ⟨rfl,((Qb _ _).alloc (Qn _) _).trans (hb1.mono (by simp))⟩
set_option maxRecDepth 100000 in
set_option maxHeartbeats 1000000 in
theorem Xgu (I:IH) (ai dt sp:Int) (L:List Ses) (vs:Value) (hvs:RdS tSes I vs L) (w:World) (hw:Ok I w):
 Calls Tryz.prog 42 #[arcV ai dt sp vs] w fun e w'=>e= .returned (.int .i64 (lastDt L))∧Below w.heap.size w w':=by
 obtain ⟨ao,co,rfl,_,_,_⟩:=id hvs
 rcases Xb0 L with rfl|⟨k,hk,hlen,hlast⟩
 ·go_enter Tryz.func42,Tryz.ntmps42
  go_wp2
  go_ret
  exact ⟨rfl,(Qb _ _).alloc (Qn _) _⟩
 ·have Hn:=Qh (show lastDt L=L[k].date by unfold lastDt;rw [hlast])
  obtain ⟨x,ve,b,off,cap',hlx,hvv,hat,hve⟩:=Xfn hvs (hw.alloc (.cells #[.int .u32 ai,.int .i64 dt,.int .i64 sp,.slice ao L.length co] 30)) k hk
  cases hvv
  obtain ⟨c0,c1,c2,c3,c4,c5⟩:=hat
  rw [hlx] at Hn
  have m1:IntKind.i64.wrap (k:Int)=(k:Int):=IntWalk.i64_in _ (by have:=hvs.len_le;omega)
  have z1:(((k+1:Nat):Int)==0)=false:=by simp;omega
  have i1:(k:Int)<((k+1:Nat):Int):=by omega
  rw [Hn.out]
  rw [hlen] at c0 c1 c2 c3 c4 c5 ⊢
  clear hvs hlx hlast hlen hve Hn
  go_enter Tryz.func42,Tryz.ntmps42
  go_wp2
  go_ret
  exact ⟨rfl,(Qb _ _).alloc (Qn _) _⟩
theorem Xgv:(Tryz.prog.info? 89).map (fun i=>(i.zero,i.size,i.bytes))=some (some (.agg #[.string ⟨#[]⟩,.string ⟨#[]⟩]),2,32):=by kernel_rfl
set_option maxRecDepth 100000 in
set_option maxHeartbeats 400000 in
theorem Xoz (I:IH) (v:Value) (l:List _) (hv:RdS tAt I v l) (w:World) (hw:Ok I w) (hbig:l.length*32≤140737488355328):
 Calls Tryz.prog 95 #[v] w fun e w'=> ∃v',e= .returned v'∧OwnS tAt 89 I w' w.heap.size v' l∧Below w.heap.size w w':=by
 obtain ⟨i0,hi,hz0,hz1,hz2⟩:=info_parts Xgv
 have q22:∀(w:World) (a:Option Addr) (n c n' c':Nat),(binOp .eql 51 (.slice a n c) (.slice none n' c')).run Tryz.prog w= .ok (.bool a.isNone) w:=fun w a n c n' c'=>Lib.run_eql_slice_nil w _ _ a n c n' c' Tryz.underlying51
 obtain ⟨ao,cap,xs,rfl,hcap,hcm,hL,hx⟩:=hv.cells hw (by decide)
 have HL:=Qh hL
 have Hx:=Qh hx
 clear hL hx hv
 cases ao with
 |none=>
  have h0:l.length=0:=by
   rcases Nat.eq_zero_or_pos l.length with h|h
   ·exact h
   ·obtain ⟨b,off,arr,e,_⟩:=Hx.out h;cases e
  have:l= []:=List.eq_nil_of_length_eq_zero h0
  subst this
  go_enter Tryz.func95,Tryz.ntmps95
  go_wp2
  go_ret
  exact ⟨_,rfl,OwnS.nil _ _ _ _ _,Qb _ _⟩
 |some a=>
  go_enter Tryz.func95,Tryz.ntmps95
  go_wp2_with (at_builtin;refine wpList_append_own _ rfl _ _ 51 rfl w.heap.size 89 i0 _ 2 32 Tryz.underlying51 hi hz0 hz1 hz2 rfl (by decide) _ _ _ rfl (World.ownsRow_made w #[] 0 (Qn _) (Nat.zero_le _) (by simp)) a l.length cap xs rfl ?qc1 ?qc2 ?qc3 ?qc4 ?qc5 ?qc6 ?_)
  case qc1=>exact HL.out.1
  case qc2=>
   intro j u hj
   have hl:0<l.length:=by
    have:=(List.getElem?_eq_some_iff.1 hj).1
    rw [HL.out.1] at this
    rcases Nat.eq_zero_or_pos l.length with h|h
    ·rw [h] at this;omega
    ·exact h
   obtain ⟨b,off,arr,e,_,hb,hc⟩:=Hx.out hl
   cases e
   rw [Addr.add_lit]
   rw [World.cell?_alloc_lt _ _ _ hb]
   exact hc j u hj
  case qc3=>exact HL.out.oneCell
  case qc4=>rw [Nat.zero_add];omega
  case qc5=>rw [Nat.zero_add];exact hbig
  case qc6=>simp
  intro v' w1 hown hgrow _
  go_wp2
  go_ret
  refine ⟨v',rfl,⟨xs,(by have hq:=hown;first|exact hq|(simp at hq;exact hq)),HL.out⟩,?_⟩
  exact ((Qb _ w).alloc (Qn _) _).grown hgrow (by simp) (by intro k hk;simp [Value.ownBlock] at hk;omega)
theorem Xdn:(Tryz.prog.info? 56).map (fun i=>(i.zero,i.size,i.bytes))=some (some (.agg #[.int .i64 0,.int .i64 0,.string ⟨#[]⟩,.slice none 0 0,.string ⟨#[]⟩,.string ⟨#[]⟩]),6,88):=by kernel_rfl
set_option maxRecDepth 100000 in
set_option maxHeartbeats 400000 in
theorem Xme (I:IH) (v:Value) (l:List _) (hv:RdS tSes I v l) (w:World) (hw:Ok I w) (hbig:l.length*88≤140737488355328):
 Calls Tryz.prog 62 #[v] w fun e w'=> ∃v',e= .returned v'∧OwnS tSes 56 I w' w.heap.size v' l∧Below w.heap.size w w':=by
 obtain ⟨i0,hi,hz0,hz1,hz2⟩:=info_parts Xdn
 have q22:∀(w:World) (a:Option Addr) (n c n' c':Nat),(binOp .eql 28 (.slice a n c) (.slice none n' c')).run Tryz.prog w= .ok (.bool a.isNone) w:=fun w a n c n' c'=>Lib.run_eql_slice_nil w _ _ a n c n' c' Tryz.underlying28
 obtain ⟨ao,cap,xs,rfl,hcap,hcm,hL,hx⟩:=hv.cells hw (by decide)
 have HL:=Qh hL
 have Hx:=Qh hx
 clear hL hx hv
 cases ao with
 |none=>
  have h0:l.length=0:=by
   rcases Nat.eq_zero_or_pos l.length with h|h
   ·exact h
   ·obtain ⟨b,off,arr,e,_⟩:=Hx.out h;cases e
  have:l= []:=List.eq_nil_of_length_eq_zero h0
  subst this
  go_enter Tryz.func62,Tryz.ntmps62
  go_wp2
  go_ret
  exact ⟨_,rfl,OwnS.nil _ _ _ _ _,Qb _ _⟩
 |some a=>
  go_enter Tryz.func62,Tryz.ntmps62
  go_wp2_with (at_builtin;refine wpList_append_own _ rfl _ _ 28 rfl w.heap.size 56 i0 _ 6 88 Tryz.underlying28 hi hz0 hz1 hz2 rfl (by decide) _ _ _ rfl (World.ownsRow_made w #[] 0 (Qn _) (Nat.zero_le _) (by simp)) a l.length cap xs rfl ?qc1 ?qc2 ?qc3 ?qc4 ?qc5 ?qc6 ?_)
  case qc1=>exact HL.out.1
  case qc2=>
   intro j u hj
   have hl:0<l.length:=by
    have:=(List.getElem?_eq_some_iff.1 hj).1
    rw [HL.out.1] at this
    rcases Nat.eq_zero_or_pos l.length with h|h
    ·rw [h] at this;omega
    ·exact h
   obtain ⟨b,off,arr,e,_,hb,hc⟩:=Hx.out hl
   cases e
   rw [Addr.add_lit]
   rw [World.cell?_alloc_lt _ _ _ hb]
   exact hc j u hj
  case qc3=>exact HL.out.oneCell
  case qc4=>rw [Nat.zero_add];omega
  case qc5=>rw [Nat.zero_add];exact hbig
  case qc6=>simp
  intro v' w1 hown hgrow _
  go_wp2
  go_ret
  refine ⟨v',rfl,⟨xs,(by have hq:=hown;first|exact hq|(simp at hq;exact hq)),HL.out⟩,?_⟩
  exact ((Qb _ w).alloc (Qn _) _).grown hgrow (by simp) (by intro k hk;simp [Value.ownBlock] at hk;omega)
theorem Xwl (t:List Ent) (p:Bytes):(getE t p).2=(getT t p).isSome:=by
 unfold getE
 cases getT t p<;>rfl
set_option maxRecDepth 100000 in
set_option maxHeartbeats 4000000 in
theorem Xkc (I:IH) (hI:Glob I) (d:Drf) (ve vk vt vh:Value) (hvt:RdS tEnt I vt d.tree) (hvh:RdS tHo I vh d.holds) (hk:HOk d.holds) (hnh:d.holds.length≤100000) (e:Ent) (va vx:Value) (hva:RdS tAt I va e.attrs) (hvx:RdS tXt I vx e.exts) (hk1:1≤e.kind) (hpl:e.path.length≤4294967280) (w:World) (hw:Ok I w):
 Calls Tryz.prog 53 #[drV d ve vk vt vh,entV e va vx] w fun r w'=>r= .returned (.int .i64 (askP d.stt e d.date))∧Below w.heap.size w w':=by
 obtain ⟨ye,bx,hg⟩:∃ye bx,getE d.tree e.path=(ye,bx):=⟨_,_,rfl⟩
 have Hg:=Qh (fun w hw=>(by have:=Xuu I vt d.tree hvt e.path w hw;rwa [hg] at this:Calls Tryz.prog 33 #[vt,S e.path] w (RetG I w (ye,bx))))
 have Hal:=Qh (fun w hw=>Xo4 I hI vh d.holds hvh hk hnh e va vx hva hvx hpl d.date w hw)
 obtain ⟨at',ct,rfl,_,_,_⟩:=id hvt
 obtain ⟨ah,ch,rfl,_,_,_⟩:=id hvh
 obtain ⟨aa,ca,rfl,_,_,_⟩:=id hva
 obtain ⟨ax,cx,rfl,_,_,_⟩:=id hvx
 have DB:=Qh (show DrB ((w.alloc (.cells #[.int .i64 d.num,.int .i64 d.date,S d.prev,ve,vk,.int .i64 d.sto.ses,S d.sto.str,.slice at' d.tree.length ct,.slice ah d.holds.length ch] 46)).alloc (.cells #[.int .i64 e.kind,S e.path,.slice aa e.attrs.length ca,S e.target,.int .i64 e.size,S e.digest,.slice ax e.exts.length cx] 68)) w.heap.size d ve vk (.slice at' d.tree.length ct) (.slice ah d.holds.length ch) from (drB_row (heap_alloc_new _ _)).past _)
 have EB:=Qh (show EntB ((w.alloc (.cells #[.int .i64 d.num,.int .i64 d.date,S d.prev,ve,vk,.int .i64 d.sto.ses,S d.sto.str,.slice at' d.tree.length ct,.slice ah d.holds.length ch] 46)).alloc (.cells #[.int .i64 e.kind,S e.path,.slice aa e.attrs.length ca,S e.target,.int .i64 e.size,S e.digest,.slice ax e.exts.length cx] 68)) (w.heap.size+1) e (.slice aa e.attrs.length ca) (.slice ax e.exts.length cx) from entB (by simp) (Qb _ _))
 have hb2:Below w.heap.size w ((w.alloc (.cells #[.int .i64 d.num,.int .i64 d.date,S d.prev,ve,vk,.int .i64 d.sto.ses,S d.sto.str,.slice at' d.tree.length ct,.slice ah d.holds.length ch] 46)).alloc (.cells #[.int .i64 e.kind,S e.path,.slice aa e.attrs.length ca,S e.target,.int .i64 e.size,S e.digest,.slice ax e.exts.length cx] 68)):=((Qb w.heap.size w).alloc (Qn _) _).alloc (by simp) _
 have hask:askP d.stt e d.date=if 3<e.kind∨bx=true then alwP d.holds e.kind e.path d.date else 0:=by
  unfold askP
  have h2:=Xwl d.tree e.path
  rw [hg] at h2
  rw [show bx=(getT d.tree e.path).isSome from h2]
  rfl
 clear hvt hvh hva hvx hg
 have k1:decide ((1:Int)≤e.kind)=true:=Qt hk1
 cases bx
 case true=>
  have Hn:=Qh (show askP d.stt e d.date=alwP d.holds e.kind e.path d.date by rw [hask,if_pos (.inr rfl)])
  clear hask hk1
  go_enter Tryz.func53,Tryz.ntmps53
  go_wp2_with fail
  refine (Hg.out _ ((hw.alloc _).alloc _)).mono ?_
  rintro r1 w1 ⟨va1,vx1,rfl,hr1,hr2,hb1⟩
  obtain ⟨aq,cq,rfl,_,_,_⟩:=id hr1
  obtain ⟨aq2,cq2,rfl,_,_,_⟩:=id hr2
  have hok1:Ok I (w1.alloc (.cells #[.int .i64 ye.kind,S ye.path,.slice aq ye.attrs.length cq,S ye.target,.int .i64 ye.size,S ye.digest,.slice aq2 ye.exts.length cq2] 68)):=(((hw.alloc _).alloc _).below (Qn _) hb1).alloc _
  have DB1:=(DB.out.thru hb1).past (.cells #[.int .i64 ye.kind,S ye.path,.slice aq ye.attrs.length cq,S ye.target,.int .i64 ye.size,S ye.digest,.slice aq2 ye.exts.length cq2] 68)
  have EB1:=(EB.out.thru hb1).past (.cells #[.int .i64 ye.kind,S ye.path,.slice aq ye.attrs.length cq,S ye.target,.int .i64 ye.size,S ye.digest,.slice aq2 ye.exts.length cq2] 68)
  have hb1':=(hb2.trans (hb1.mono hb2.size)).alloc (by have:=(hb2.trans (hb1.mono hb2.size)).size;omega) (.cells #[.int .i64 ye.kind,S ye.path,.slice aq ye.attrs.length cq,S ye.target,.int .i64 ye.size,S ye.digest,.slice aq2 ye.exts.length cq2] 68)
  obtain ⟨d0,d1,d2,d3,d4,d5,d6⟩:=EB1
  obtain ⟨c0,c1,c2,c3,c4,c5,c6,c7,c8⟩:=DB1
  clear hb1 hb2 hr1 hr2 Hg
  go_wp2_with fail
  refine (Hal.out _ hok1).mono ?_
  rintro r2 w2 ⟨rfl,hb2⟩
  go_wp2
  go_ret
  rw [Hn.out]
  exact ⟨rfl,hb1'.trans (hb2.mono hb1'.size)⟩
 case false=>
  by_cases h3:e.kind≤3
  ·have Hn:=Qh (show askP d.stt e d.date=0 by rw [hask,if_neg (by simp;omega)])
   have k3:decide (e.kind≤3)=true:=Qt h3
   clear hask hk1 h3
   go_enter Tryz.func53,Tryz.ntmps53
   go_wp2_with fail
   refine (Hg.out _ ((hw.alloc _).alloc _)).mono ?_
   rintro r1 w1 ⟨va1,vx1,rfl,hr1,hr2,hb1⟩
   obtain ⟨aq,cq,rfl,_,_,_⟩:=id hr1
   obtain ⟨aq2,cq2,rfl,_,_,_⟩:=id hr2
   have hok1:Ok I (w1.alloc (.cells #[.int .i64 ye.kind,S ye.path,.slice aq ye.attrs.length cq,S ye.target,.int .i64 ye.size,S ye.digest,.slice aq2 ye.exts.length cq2] 68)):=(((hw.alloc _).alloc _).below (Qn _) hb1).alloc _
   have DB1:=(DB.out.thru hb1).past (.cells #[.int .i64 ye.kind,S ye.path,.slice aq ye.attrs.length cq,S ye.target,.int .i64 ye.size,S ye.digest,.slice aq2 ye.exts.length cq2] 68)
   have EB1:=(EB.out.thru hb1).past (.cells #[.int .i64 ye.kind,S ye.path,.slice aq ye.attrs.length cq,S ye.target,.int .i64 ye.size,S ye.digest,.slice aq2 ye.exts.length cq2] 68)
   have hb1':=(hb2.trans (hb1.mono hb2.size)).alloc (by have:=(hb2.trans (hb1.mono hb2.size)).size;omega) (.cells #[.int .i64 ye.kind,S ye.path,.slice aq ye.attrs.length cq,S ye.target,.int .i64 ye.size,S ye.digest,.slice aq2 ye.exts.length cq2] 68)
   obtain ⟨d0,d1,d2,d3,d4,d5,d6⟩:=EB1
   obtain ⟨c0,c1,c2,c3,c4,c5,c6,c7,c8⟩:=DB1
   clear hb1 hb2 hr1 hr2 Hg
   go_wp2
   go_ret
   rw [Hn.out]
   exact ⟨rfl,hb1'⟩
  ·have Hn:=Qh (show askP d.stt e d.date=alwP d.holds e.kind e.path d.date by rw [hask,if_pos (.inl (by omega))])
   have k3:decide (e.kind≤3)=false:=Qf h3
   clear hask hk1 h3
   go_enter Tryz.func53,Tryz.ntmps53
   go_wp2_with fail
   refine (Hg.out _ ((hw.alloc _).alloc _)).mono ?_
   rintro r1 w1 ⟨va1,vx1,rfl,hr1,hr2,hb1⟩
   obtain ⟨aq,cq,rfl,_,_,_⟩:=id hr1
   obtain ⟨aq2,cq2,rfl,_,_,_⟩:=id hr2
   have hok1:Ok I (w1.alloc (.cells #[.int .i64 ye.kind,S ye.path,.slice aq ye.attrs.length cq,S ye.target,.int .i64 ye.size,S ye.digest,.slice aq2 ye.exts.length cq2] 68)):=(((hw.alloc _).alloc _).below (Qn _) hb1).alloc _
   have DB1:=(DB.out.thru hb1).past (.cells #[.int .i64 ye.kind,S ye.path,.slice aq ye.attrs.length cq,S ye.target,.int .i64 ye.size,S ye.digest,.slice aq2 ye.exts.length cq2] 68)
   have EB1:=(EB.out.thru hb1).past (.cells #[.int .i64 ye.kind,S ye.path,.slice aq ye.attrs.length cq,S ye.target,.int .i64 ye.size,S ye.digest,.slice aq2 ye.exts.length cq2] 68)
   have hb1':=(hb2.trans (hb1.mono hb2.size)).alloc (by have:=(hb2.trans (hb1.mono hb2.size)).size;omega) (.cells #[.int .i64 ye.kind,S ye.path,.slice aq ye.attrs.length cq,S ye.target,.int .i64 ye.size,S ye.digest,.slice aq2 ye.exts.length cq2] 68)
   obtain ⟨d0,d1,d2,d3,d4,d5,d6⟩:=EB1
   obtain ⟨c0,c1,c2,c3,c4,c5,c6,c7,c8⟩:=DB1
   clear hb1 hb2 hr1 hr2 Hg
   go_wp2_with fail
   refine (Hal.out _ hok1).mono ?_
   rintro r2 w2 ⟨rfl,hb2⟩
   go_wp2
   go_ret
   rw [Hn.out]
   exact ⟨rfl,hb1'.trans (hb2.mono hb1'.size)⟩
end Go.Proofs.YtjdednajelommaaGreatDoor
