/-
  Walks and laws that the claim's theorem uses: texts SeA CkO CkP CkC CkA CkB CkD, joined; comments out. Conditions: as each theorem says.
-/
import Derived.Test.YtjdednajelommaaGreatDoorQ14
import Derived.Laws.OwnMore
namespace Go.Proofs.YtjdednajelommaaGreatDoor
open Go.RowKit
abbrev sesCs (s:Ses) (ve:Value):List Value:= [.int .i64 s.num,.int .i64 s.date,S s.prev,ve,S s.stream,S s.sl]
abbrev sesV (s:Ses) (ve:Value):Value:= .agg #[.int .i64 s.num,.int .i64 s.date,S s.prev,ve,S s.stream,S s.sl]
def tSes:Ty Ses where
 size:=6
 rd:=fun I cs s=> ∃ve,cs=sesCs s ve∧RdS tEnt I ve s.ents
 len:=fun ⟨_,h,_⟩=>by rw [h];rfl
 one:=fun ⟨ve,h,h1⟩ u hu=>by
  rw [h] at hu
  simp at hu
  rcases hu with rfl|rfl|rfl|rfl|rfl|rfl<;>first|rfl|exact h1.one
 mono:=fun hI ⟨ve,h,h1⟩=>⟨ve,h,h1.mono hI⟩
structure SesAt (w:World) (b o:Nat) (s:Ses) (ve:Value):Prop where
 c0:w.cell? ⟨b,o,none⟩=some (.int .i64 s.num)
 c1:w.cell? ⟨b,o+1,none⟩=some (.int .i64 s.date)
 c2:w.cell? ⟨b,o+2,none⟩=some (S s.prev)
 c3:w.cell? ⟨b,o+3,none⟩=some ve
 c4:w.cell? ⟨b,o+4,none⟩=some (S s.stream)
 c5:w.cell? ⟨b,o+5,none⟩=some (S s.sl)
structure SesB (w:World) (n:Nat) (s:Ses) (ve:Value):Prop where
 c0:w.cell? ⟨n,0,none⟩=some (.int .i64 s.num)
 c1:w.cell? ⟨n,1,none⟩=some (.int .i64 s.date)
 c2:w.cell? ⟨n,2,none⟩=some (S s.prev)
 c3:w.cell? ⟨n,3,none⟩=some ve
 c4:w.cell? ⟨n,4,none⟩=some (S s.stream)
 c5:w.cell? ⟨n,5,none⟩=some (S s.sl)
theorem SesB.thru {w w':World} {b:Nat} {s:Ses} {ve:Value} (h:SesB w b s ve) (hb:Below w.heap.size w w'):SesB w' b s ve:=
 ⟨Xaa hb h.c0,Xaa hb h.c1,Xaa hb h.c2,Xaa hb h.c3,Xaa hb h.c4,Xaa hb h.c5⟩
theorem SesB.past {w:World} {b:Nat} {s:Ses} {ve:Value} (h:SesB w b s ve) (x:Obj):SesB (w.alloc x) b s ve:=
 ⟨Xai x h.c0,Xai x h.c1,Xai x h.c2,Xai x h.c3,Xai x h.c4,Xai x h.c5⟩
theorem SesB.far {w w':World} {b B:Nat} {s:Ses} {ve:Value} (h:SesB w b s ve) (hb:Below B w w') (hn:b<B):SesB w' b s ve:=
 ⟨(hb.cell hn).trans h.c0,(hb.cell hn).trans h.c1,(hb.cell hn).trans h.c2,(hb.cell hn).trans h.c3,(hb.cell hn).trans h.c4,(hb.cell hn).trans h.c5⟩
theorem sesB {W w':World} {s:Ses} {ve:Value} {t:TypeId} {n:Nat} (hn:n=W.heap.size) (hb:Below (W.alloc (.cells #[.int .i64 s.num,.int .i64 s.date,S s.prev,ve,S s.stream,S s.sl] t)).heap.size (W.alloc (.cells #[.int .i64 s.num,.int .i64 s.date,S s.prev,ve,S s.stream,S s.sl] t)) w'):SesB w' n s ve:=by
 subst hn
 exact SesB.thru ⟨by simp,by simp,by simp,by simp,by simp,by simp⟩ hb
theorem Xfn {I:IH} {v:Value} {l:List Ses} {w:World} (h:RdS tSes I v l) (hw:Ok I w) (i:Nat) (hi:i<l.length):∃x ve b off cap,l[i]=x∧v= .slice (some ⟨b,off,none⟩) l.length cap∧
 SesAt w b (off+i*6) x ve∧RdS tEnt I ve x.ents:=by
 obtain ⟨b,off,cap,cs,hv,⟨ve,hcs,h1⟩,hc⟩:=h.at_ hw hi
 subst hcs
 exact ⟨_,ve,b,off,cap,rfl,hv,⟨hc 0 _ rfl,hc 1 _ rfl,hc 2 _ rfl,hc 3 _ rfl,hc 4 _ rfl,hc 5 _ rfl⟩,h1⟩
structure SesG (s:Ses):Prop where
 nents:s.ents.length≤30
 stream:s.stream.length≤1000
 prev:s.prev.length≤100
 sl:s.sl.length≤2100
 wf:∀e∈s.ents,e.Wf
 path:∀e∈s.ents,e.path.length≤300
 target:∀e∈s.ents,e.target.length≤300
 exts:∀e∈s.ents,e.exts.length≤30
 num: -9223372036854775808≤s.num∧s.num≤9223372036854775807
 date: -9223372036854775808≤s.date∧s.date≤9223372036854775807
def sesK (s:Ses) (k:Nat):Bytes:=sesHead s++(s.ents.take k).flatMap encE
theorem Xkd {s:Ses} {k:Nat} (hk:k<s.ents.length) {x:Ent} (hx:s.ents[k]=x):sesK s (k+1)=sesK s k++encE x:=by
 rw [sesK,sesK,List.take_succ_eq_append_getElem hk,hx,List.flatMap_append,←List.append_assoc]
 simp
theorem Xnm (s:Ses) {k:Nat} (h:s.ents.length≤k):sesK s k=sesText s:=by rw [sesK,List.take_of_length_le h];rfl
theorem Xde (s:Bytes):(sumP s).length≤32:=by
 unfold sumP
 rw [List.length_map]
 exact Xf3 _ 8
theorem Xn9:∀ {l:List Ent},(∀e∈l,EncOk e∧e.exts.length≤1000)→(l.flatMap encE).length≤54000*l.length
 | [],_=>by simp
 |e::l,h=>by
  have h1:=Xjs (h e (List.mem_cons_self ..)).1 (h e (List.mem_cons_self ..)).2
  have h2:=Xn9 fun x hx=>h x (List.mem_cons_of_mem _ hx)
  simp only [List.flatMap_cons,List.length_append,List.length_cons]
  omega
end Go.Proofs.YtjdednajelommaaGreatDoor
namespace Go.Proofs.YtjdednajelommaaGreatDoor
def ckH (h:Nat) (b:UInt8):Nat:=(2*h+40503*(b.toNat+1))%65536
def firstG:Bytes→Nat→Nat→Nat
 | [],i,_=>i
 |b::r,i,h=>if i+1=96∨(16≤i+1∧ckH h b<2048) then i+1 else firstG r (i+1) (ckH h b)
def firstP (s:Bytes):Nat:=firstG s 0 0
theorem Xhs:∀(r:Bytes) (i h:Nat),i≤firstG r i h∧firstG r i h≤i+r.length
 | [],i,h=>⟨Qn _,by simp [firstG]⟩
 |b::r,i,h=>by
  have:=Xhs r (i+1) (ckH h b)
  rw [firstG,List.length_cons]
  split<;>omega
theorem Xpl (b:UInt8) (r:Bytes) (i h:Nat):i<firstG (b::r) i h:=by
 have:=(Xhs r (i+1) (ckH h b)).1
 rw [firstG]
 split<;>omega
theorem Xdb {s:Bytes} (h:s≠ []):0<firstP s:=by
 cases s with
 |nil=>exact absurd rfl h
 |cons b r=>exact Xpl b r 0 0
theorem Xhq (s:Bytes):firstP s≤s.length:=by have:=(Xhs s 0 0).2;unfold firstP;omega
def chunksF:Nat→Bytes→List Bytes
 |0,_=> []
 |n+1,s=>if s= [] then [] else s.take (firstP s)::chunksF n (s.drop (firstP s))
def chunksP (s:Bytes):List Bytes:=chunksF s.length s
theorem Xiv:∀(n m:Nat) (s:Bytes),s.length≤n→s.length≤m→chunksF n s=chunksF m s
 |0,m,s,h,_=>by
  have:s= []:=List.eq_nil_of_length_eq_zero (by omega)
  subst this
  cases m<;>simp [chunksF]
 |n+1,0,s,_,h=>by
  have:s= []:=List.eq_nil_of_length_eq_zero (by omega)
  subst this
  simp [chunksF]
 |n+1,m+1,s,h1,h2=>by
  rw [chunksF,chunksF]
  by_cases h0:s= []
  ·rw [if_pos h0,if_pos h0]
  ·have hp:=Xdb h0
   rw [if_neg h0,if_neg h0,Xiv n m _ (by rw [List.length_drop];omega) (by rw [List.length_drop];omega)]
theorem Xiu:chunksP []= []:=rfl
theorem Xew {s:Bytes} (h:s≠ []):chunksP s=s.take (firstP s)::chunksP (s.drop (firstP s)):=by
 have hp:=Xdb h
 have hl:0<s.length:=List.length_pos_iff.2 h
 obtain ⟨n,hn⟩:∃n,s.length=n+1:=⟨s.length-1,by omega⟩
 unfold chunksP
 rw [hn,chunksF,if_neg h,Xiv n (s.drop (firstP s)).length _ (by rw [List.length_drop];omega) (Qn _)]
theorem Xcw:∀(n:Nat) (s:Bytes),s.length≤n→(chunksP s).flatten=s∧(∀c∈chunksP s,c≠ [])∧(chunksP s).length≤s.length
 |0,s,h=>by
  have:s= []:=List.eq_nil_of_length_eq_zero (by omega)
  subst this
  exact ⟨rfl,fun _ h=>(by cases h),Qn _⟩
 |n+1,s,h=>by
  by_cases h0:s= []
  ·subst h0
   exact ⟨rfl,fun _ h=>(by cases h),Qn _⟩
  ·have hp:=Xdb h0
   have hf:=Xhq s
   obtain ⟨h1,h2,h3⟩:=Xcw n (s.drop (firstP s)) (by rw [List.length_drop];omega)
   rw [List.length_drop] at h3
   rw [Xew h0]
   refine ⟨by rw [List.flatten_cons,h1,List.take_append_drop],fun c hc=> ?_,by rw [List.length_cons];omega⟩
   rcases List.mem_cons.1 hc with rfl|hc
   ·intro e
    have:=congrArg List.length e
    rw [List.length_take] at this
    simp at this
    rcases this with h|h
    ·omega
    ·exact h0 h
   ·exact h2 c hc
theorem Xdl (s:Bytes):(chunksP s).flatten=s:=(Xcw _ s (Qn _)).1
theorem Xr8 {s:Bytes}:∀c∈chunksP s,c≠ []:=(Xcw _ s (Qn _)).2.1
theorem Xeh (s:Bytes):(chunksP s).length≤s.length:=(Xcw _ s (Qn _)).2.2
structure Sg where
 n:Int
 d:Bytes
def zerosP:Bytes→Nat
 | []=>0
 |b::r=>if b=0 then zerosP r+1 else 0
theorem Xey:∀s:Bytes,zerosP s≤s.length
 | []=>Qn _
 |b::r=>by
  have:=Xey r
  rw [zerosP,List.length_cons]
  split<;>omega
def dataG (d:Bytes):List Sg:=if d= [] then [] else [⟨0,d⟩]
def segG:Nat→Bytes→Bytes→List Sg
 |0,acc,_=>dataG acc
 |f+1,acc,r=>
  if r= [] then dataG acc
  else if 32≤zerosP r then dataG acc++⟨(zerosP r:Nat),[]⟩::segG f [] (r.drop (zerosP r))
  else segG f (acc++r.take (max (zerosP r) 1)) (r.drop (max (zerosP r) 1))
def segR (acc r:Bytes):List Sg:=segG r.length acc r
def segsP (s:Bytes):List Sg:=segR [] s
theorem Xi9:∀(n m:Nat) (acc r:Bytes),r.length≤n→r.length≤m→segG n acc r=segG m acc r
 |0,m,acc,r,h,_=>by
  have:r= []:=List.eq_nil_of_length_eq_zero (by omega)
  subst this
  cases m<;>simp [segG]
 |n+1,0,acc,r,_,h=>by
  have:r= []:=List.eq_nil_of_length_eq_zero (by omega)
  subst this
  simp [segG]
 |n+1,m+1,acc,r,h1,h2=>by
  rw [segG,segG]
  by_cases h0:r= []
  ·rw [if_pos h0,if_pos h0]
  ·have hl:0<r.length:=List.length_pos_iff.2 h0
   rw [if_neg h0,if_neg h0]
   by_cases h3:32≤zerosP r
   ·rw [if_pos h3,if_pos h3,Xi9 n m _ _ (by rw [List.length_drop];omega) (by rw [List.length_drop];omega)]
   ·rw [if_neg h3,if_neg h3,Xi9 n m _ _ (by rw [List.length_drop];omega) (by rw [List.length_drop];omega)]
theorem Xqm (acc:Bytes):segR acc []=dataG acc:=rfl
theorem Xnp {acc r:Bytes} (h0:r≠ []) (h:32≤zerosP r):segR acc r=dataG acc++⟨(zerosP r:Nat),[]⟩::segR [] (r.drop (zerosP r)):=by
 have hl:0<r.length:=List.length_pos_iff.2 h0
 obtain ⟨n,hn⟩:∃n,r.length=n+1:=⟨r.length-1,by omega⟩
 unfold segR
 rw [hn,segG,if_neg h0,if_pos h,Xi9 n _ _ _ (by rw [List.length_drop];omega) (Qn _)]
theorem Xnq {acc r:Bytes} (h0:r≠ []) (h:¬32≤zerosP r):segR acc r=segR (acc++r.take (max (zerosP r) 1)) (r.drop (max (zerosP r) 1)):=by
 have hl:0<r.length:=List.length_pos_iff.2 h0
 obtain ⟨n,hn⟩:∃n,r.length=n+1:=⟨r.length-1,by omega⟩
 unfold segR
 rw [hn,segG,if_neg h0,if_neg h,Xi9 n _ _ _ (by rw [List.length_drop];omega) (Qn _)]
def segSz (l:List Sg):Nat:=(l.map fun g=>g.n.toNat+g.d.length).sum
theorem Xd9 (g:Sg) (l:List Sg):segSz (g::l)=g.n.toNat+g.d.length+segSz l:=by simp [segSz]
theorem Xkf (a b:List Sg):segSz (a++b)=segSz a+segSz b:=by simp [segSz]
theorem Xev (d:Bytes):segSz (dataG d)=d.length∧ ∀g∈dataG d,(g.n=0∧g.d≠ [])∨(0<g.n∧g.d= []):=by
 unfold dataG
 split
 ·rename_i h;subst h;exact ⟨rfl,fun _ h=>(by cases h)⟩
 ·rename_i h
  refine ⟨by simp [segSz],fun g hg=> ?_⟩
  simp at hg
  subst hg
  exact .inl ⟨rfl,h⟩
theorem Xea:∀(f:Nat) (acc r:Bytes),r.length≤f→segSz (segG f acc r)=acc.length+r.length∧ ∀g∈segG f acc r,(g.n=0∧g.d≠ [])∨(0<g.n∧g.d= [])
 |0,acc,r,h=>by
  have:r= []:=List.eq_nil_of_length_eq_zero (by omega)
  subst this
  exact Xev acc
 |f+1,acc,r,h=>by
  rw [segG]
  by_cases h0:r= []
  ·subst h0;rw [if_pos rfl];exact Xev acc
  ·have hl:0<r.length:=List.length_pos_iff.2 h0
   have hz:=Xey r
   rw [if_neg h0]
   by_cases h3:32≤zerosP r
   ·rw [if_pos h3]
    obtain ⟨h1,h2⟩:=Xea f [] (r.drop (zerosP r)) (by rw [List.length_drop];omega)
    obtain ⟨d1,d2⟩:=Xev acc
    rw [List.length_drop] at h1
    refine ⟨by rw [Xkf,Xd9,h1,d1];simp;omega,fun g hg=> ?_⟩
    rcases List.mem_append.1 hg with hg|hg
    ·exact d2 g hg
    ·rcases List.mem_cons.1 hg with rfl|hg
     ·exact .inr ⟨by show (0:Int)<(zerosP r:Nat);omega,rfl⟩
     ·exact h2 g hg
   ·rw [if_neg h3]
    obtain ⟨h1,h2⟩:=Xea f (acc++r.take (max (zerosP r) 1)) (r.drop (max (zerosP r) 1)) (by rw [List.length_drop];omega)
    refine ⟨by rw [h1];simp;omega,h2⟩
theorem Xe0 (s:Bytes):segSz (segsP s)=s.length:=by
 have:=(Xea s.length [] s (Qn _)).1
 simpa [segsP,segR] using this
theorem Xe1 {s:Bytes}:∀g∈segsP s,(g.n=0∧g.d≠ [])∨(0<g.n∧g.d= []):=(Xea s.length [] s (Qn _)).2
theorem Xgw:∀ {l:List Sg},(∀g∈l,(g.n=0∧g.d≠ [])∨(0<g.n∧g.d= []))→l.length≤segSz l
 | [],_=>Qn _
 |g::l,h=>by
  have h1:=h g (List.mem_cons_self ..)
  have h2:=Xgw (l:=l) fun x hx=>h x (List.mem_cons_of_mem _ hx)
  rw [Xd9,List.length_cons]
  rcases h1 with ⟨_,h1⟩|⟨h1,_⟩
  ·have:=List.length_pos_iff.2 h1;omega
  ·omega
theorem Xno (s:Bytes):(segsP s).length≤s.length:=by rw [←Xe0 s];exact Xgw Xe1
end Go.Proofs.YtjdednajelommaaGreatDoor
namespace Go.Proofs.YtjdednajelommaaGreatDoor
structure Ck where
 d:Bytes
 x:Xt
structure Sto where
 cks:List Ck
 ses:Int
 str:Bytes
def findX:List Ck→Bytes→Option Xt
 | [],_=>none
 |c::l,d=>if c.d=d then some c.x else findX l d
def addX (l:List Xt) (x:Xt):List Xt:=
 match l.getLast? with
 |none=> [x]
 |some y=>if x.s≠0∧y.s=x.s∧y.o+y.n=x.o then l.dropLast++ [⟨y.s,y.o,y.n+x.n⟩] else l++ [x]
def newX (S:Sto) (c:Bytes):Xt:=⟨S.ses,(S.str.length:Nat),(c.length:Nat)⟩
def putC (S:Sto) (c:Bytes):Sto × Xt:=
 match findX S.cks (sumP c) with
 |some x=>(S,x)
 |none=>(⟨S.cks++ [⟨sumP c,newX S c⟩],S.ses,S.str++c⟩,newX S c)
def putO (p:Sto × List Xt) (c:Bytes):Sto × List Xt:=((putC p.1 c).1,addX p.2 (putC p.1 c).2)
def putG (p:Sto × List Xt) (g:Sg):Sto × List Xt:=if g.d= [] then (p.1,addX p.2 ⟨0,0,g.n⟩) else (chunksP g.d).foldl putO p
def putP (S:Sto) (c:Bytes):Sto × List Xt × Int:=
 if S.ses<1∨255<S.ses then (S,[],1) else if 65536<c.length then (S,[],6)
 else (((segsP c).foldl putG (S,[])).1,((segsP c).foldl putG (S,[])).2,0)
def beginP (S:Sto) (n:Int):Sto × Int:=if n<1∨255<n then (S,2) else if n≤S.ses then (S,14) else (⟨S.cks,n,[]⟩,0)
def gBad (st:List Bytes) (x:Xt):Bool:=decide (x.n<0) || decide (x.o<0) || decide (x.s<0) || decide ((st.length:Int)<x.s) || (x.s==0&&x.o != 0)
def strAtP (st:List Bytes) (x:Xt):Bytes:=st.getD (x.s-1).toNat []
def getG (st:List Bytes):List Xt→Bytes→Bytes × Int
 | [],out=>(out,0)
 |x::r,out=>
  if gBad st x=true then ([],2)
  else if 0<x.s∧(((strAtP st x).length:Int)<x.o∨((strAtP st x).length:Int)-x.o<x.n) then ([],2)
  else if 65536-(out.length:Int)<x.n then ([],6)
  else getG st r (out++if x.s=0 then List.replicate x.n.toNat 0 else ((strAtP st x).drop x.o.toNat).take x.n.toNat)
def getP (st:List Bytes) (l:List Xt):Bytes × Int:=getG st l []
theorem Xot (l:List Xt) (x:Xt):(addX l x).length≤l.length+1∧0<(addX l x).length:=by
 unfold addX
 split
 ·simp
 ·rename_i y hy
  have hl:0<l.length:=by cases l with
   |nil=>simp at hy
   |cons a l=>simp
  split<;>simp<;>omega
end Go.Proofs.YtjdednajelommaaGreatDoor
namespace Go.Proofs.YtjdednajelommaaGreatDoor
open Go.RowKit
theorem Xbf {α:Type} {T:Ty α} {I:IH} {P:Program} {ts te:TypeId} {bytes:Nat} (hE:ElemOk P ts te T bytes) {w0:World} {ops:Array Oper} {rest:List Oper} {o:Oper} {a:Act} {Q:Exit→Act→World→Prop} (hgd:o.guard=none) (s x:Operand)
 (ho:o.op= .call { callee:= .builtin .append,args:= #[s,x],argTypes:= #[ts,ts] }) (B:Nat) (v:Value) (l:List α) (hs:a.eval s=v) (hown:OwnS T te I w0 B v l)
 (y:α) (cs:List Value) (tb:TypeId) (hx:a.eval x= .slice (some ⟨w0.heap.size,0,none⟩) 1 1) (hy:T.rd I cs y) (hbig:(l.length+1)*bytes≤140737488355328) (hl:l.length+1≤9223372036854775807) (hB:B≤w0.heap.size)
 (h:∀v' w',OwnS T te I w' B v' (l++ [y])→w0.grownBy w' v.ownBlock→(∀g,v'.ownBlock=some g→v.ownBlock=some g∨w0.heap.size≤g)→wpList P ops Q rest (a.put o.dst v') w'):wpList P ops Q (o::rest) a (w0.alloc (.cells cs.toArray tb)):=by
 obtain ⟨i,z,h1,h2,h3,h4,h5,h6,h7⟩:=hE
 obtain ⟨xs,k1,k2⟩:=hown
 refine wpList_append_own_at (w0.alloc (.cells cs.toArray tb)) hgd s x ts ho B te i z T.size bytes h1 h2 h3 h4 h5 h6 h7 v l.length xs hs (k1.alloc _) ⟨w0.heap.size,0,none⟩ 1 1 cs hx (by rw [T.len hy,Nat.one_mul])
  (fun j u hu=>by rw [Addr.add_lit,Nat.zero_add,World.cell?_alloc_new];simpa using hu) (T.one hy) (by unfold maxLen;omega) hbig (by simp;omega) (fun v' w' r1 r2 _ r4=>h v' w' ⟨xs++cs,by rw [List.length_append];exact r1,k2.append (LiesL.one hy)⟩ ?_ ?_)
 ·exact ⟨r2.os,r2.tape,r2.output,by have:=r2.size;simp at this;omega,fun k hk hne=>(r2.block k (by simp;omega) hne).trans (Below.heap_alloc _ _ _ hk)⟩
 ·intro g hg
  rcases r4 with r4|r4
  ·exact .inl (r4▸hg)
  ·rw [r4] at hg
   simp at hg
   exact .inr (by omega)
theorem Xb4 {w w':World} (hb:Below w.heap.size w w') (row:Option Nat):w.grownBy w' row:=⟨hb.os,hb.tape,hb.output,hb.size,fun k hk _=>hb.block k hk⟩
theorem Xcs {w w1 w2:World} {row:Option Nat} (h1:w.grownBy w1 row) (h2:w1.grownBy w2 row):w.grownBy w2 row:=
 ⟨h2.os.trans h1.os,h2.tape.trans h1.tape,h2.output.trans h1.output,Nat.le_trans h1.size h2.size,fun k hk hne=>(h2.block k (Nat.lt_of_lt_of_le hk h1.size) hne).trans (h1.block k hk hne)⟩
def XB (n:Int) (x:Xt):Prop:=0≤x.s∧x.s≤255∧0≤x.o∧x.o≤1099511627776∧0≤x.n∧x.n≤n
theorem XB.mono {n m:Int} {x:Xt} (h:XB n x) (hm:n≤m):XB m x:=by unfold XB at *;omega
section
variable {I:IH} {W:World} {B:Nat} {v:Value} {l:List Xt}
theorem Xnz (h:OwnS tXt 91 I W B v l) (h0:0<l.length):∃g cap y,v= .slice (some ⟨g,0,none⟩) l.length cap∧l.length≤cap∧l.getLast? =some y∧B≤g∧g<W.heap.size∧
 W.cell? ⟨g,(l.length-1)*3,none⟩=some (.int .i64 y.s)∧W.cell? ⟨g,(l.length-1)*3+1,none⟩=some (.int .i64 y.o)∧W.cell? ⟨g,(l.length-1)*3+2,none⟩=some (.int .i64 y.n)∧(∀j,W.frozen? ⟨g,j,none⟩=false):=by
 obtain ⟨xs,h1,h2⟩:=h
 rcases h1.2 with ⟨_,hz⟩|⟨g,cap,cur,hv,hb,hg,hnc,_⟩
 ·omega
 subst hv
 have hlt:g<W.heap.size:=(Array.getElem?_eq_some_iff.1 hg).1
 have hxl:xs.length=l.length*3:=h2.1
 have hi:l.length-1<l.length:=by omega
 obtain ⟨cs,k1,k2⟩:=h2.2 (l.length-1) hi
 have k1':cs= [.int .i64 (l[l.length-1]).s,.int .i64 (l[l.length-1]).o,.int .i64 (l[l.length-1]).n]:=k1
 subst k1'
 refine ⟨g,cap,l[l.length-1],rfl,hnc,by rw [List.getLast?_eq_getElem?,List.getElem?_eq_getElem hi],hb,hlt,?_,?_,?_,fun j=>h1.frozenAt j⟩
 ·rw [h1.cellAt _ (by show (l.length-1)*3<l.length*3;omega)];exact k2 0 _ rfl
 ·rw [h1.cellAt _ (by show (l.length-1)*3+1<l.length*3;omega)];exact k2 1 _ rfl
 ·rw [h1.cellAt _ (by show (l.length-1)*3+2<l.length*3;omega)];exact k2 2 _ rfl
theorem Xte {g cap:Nat} {y:Xt} {n:Int} (h:OwnS tXt 91 I W B (.slice (some ⟨g,0,none⟩) l.length cap) l) (hy:l.getLast? =some y):
 OwnS tXt 91 I (W.setCell ⟨g,(l.length-1)*3+2,none⟩ (.int .i64 n)) B (.slice (some ⟨g,0,none⟩) l.length cap) (l.dropLast++ [⟨y.s,y.o,n⟩]):=by
 obtain ⟨xs,h1,h2⟩:=h
 have h0:0<l.length:=by cases l with
  |nil=>simp at hy
  |cons a l=>simp
 have hl:(l.dropLast++ [(⟨y.s,y.o,n⟩:Xt)]).length=l.length:=by simp;omega
 have hs:=(h1.stored ((l.length-1)*3+2) (.int .i64 n)).1
 refine ⟨_,by rw [hl];exact hs,by rw [hl,List.length_set];exact h2.1,fun i hi=> ?_⟩
 rw [hl] at hi
 obtain ⟨cs,k1,k2⟩:=h2.2 i hi
 by_cases he:i=l.length-1
 ·have hyl:l[i]=y:=by
   have:l.getLast? =some l[i]:=by rw [List.getLast?_eq_getElem?,←he,List.getElem?_eq_getElem hi]
   rw [hy] at this;exact (Option.some.inj this).symm
  have k1':cs= [.int .i64 (l[i]).s,.int .i64 (l[i]).o,.int .i64 (l[i]).n]:=k1
  rw [hyl] at k1'
  subst k1'
  refine ⟨[.int .i64 y.s,.int .i64 y.o,.int .i64 n],?_,fun j u hu=> ?_⟩
  ·show _=_
   rw [List.getElem_append_right (by simp;omega)]
   simp
  ·have hxl:xs.length=l.length*3:=h2.1
   match j,hu with
   |0,hu=>
    rw [List.getElem?_set_ne (by show (l.length-1)*3+2≠i*3+0;omega)];exact (k2 0 _ rfl).trans hu
   |1,hu=>
    rw [List.getElem?_set_ne (by show (l.length-1)*3+2≠i*3+1;omega)];exact (k2 1 _ rfl).trans hu
   |2,hu=>
    have e:i*tXt.size+2=(l.length-1)*3+2:=by show i*3+2=_;omega
    rw [e,List.getElem?_set_self (by omega)];exact hu
 ·refine ⟨cs,?_,fun j u hu=> ?_⟩
  ·rw [List.getElem_append_left (by simp;omega),List.getElem_dropLast];exact k1
  ·have hj:j<3:=by rw [←show cs.length=3 from tXt.len k1];exact (List.getElem?_eq_some_iff.1 hu).1
   rw [List.getElem?_set_ne (by show (l.length-1)*3+2≠i*3+j;omega)];exact k2 j u hu
end
abbrev xtW (x:Xt):Value:= .agg #[.int .i64 x.s,.int .i64 x.o,.int .i64 x.n]
abbrev xtL (x:Xt):List Value:= [.int .i64 x.s,.int .i64 x.o,.int .i64 x.n]
theorem Xu0:(Tryz.prog.info? 91).map (fun i=>(i.zero,i.size,i.bytes))=some (some (.agg #[.int .i64 0,.int .i64 0,.int .i64 0]),3,24):=by kernel_rfl
theorem Xiy:ElemOk Tryz.prog 66 91 tXt 24:=ElemOk.of Tryz.underlying66 Xu0 rfl (by decide) rfl
theorem Xor (x:Xt):addX [] x= [x]:=rfl
theorem Xou {l:List Xt} {y x:Xt} (h:l.getLast? =some y) (hn:¬(x.s≠0∧y.s=x.s∧y.o+y.n=x.o)):addX l x=l++ [x]:=by
 unfold addX;rw [h];show (if _ then _ else _)=_;rw [if_neg hn]
theorem Xos {l:List Xt} {y x:Xt} (h:l.getLast? =some y) (hn:x.s≠0∧y.s=x.s∧y.o+y.n=x.o):addX l x=l.dropLast++ [⟨y.s,y.o,y.n+x.n⟩]:=by
 unfold addX;rw [h];show (if _ then _ else _)=_;rw [if_pos hn]
theorem Xf6 {l:List Xt} {y:Xt} (h:l.getLast? =some y):y∈l:=List.mem_of_getLast? h
theorem Xsm {l:List Xt} {x:Xt} {n m:Int} (hm:0≤m) (hl:∀z∈l,XB n z) (hx:XB m x) (hn:0≤n):∀z∈addX l x,XB (n+m) z:=by
 intro z hz
 cases hg:l.getLast? with
 |none=>
  have:l= []:=List.getLast?_eq_none_iff.1 hg
  subst this
  rw [Xor] at hz
  simp at hz;subst hz
  exact hx.mono (by omega)
 |some y=>
  have hy:=hl y (Xf6 hg)
  by_cases hc:x.s≠0∧y.s=x.s∧y.o+y.n=x.o
  ·rw [Xos hg hc] at hz
   rcases List.mem_append.1 hz with hz|hz
   ·exact (hl z (List.dropLast_subset _ hz)).mono (by omega)
   ·simp at hz;subst hz
    unfold XB at*
    simp only
    omega
  ·rw [Xou hg hc] at hz
   rcases List.mem_append.1 hz with hz|hz
   ·exact (hl z hz).mono (by omega)
   ·simp at hz;subst hz
    exact hx.mono (by omega)
theorem SrcS.of_own {α:Type} {T:Ty α} {E:TypeId} {I:IH} {w:World} {B:Nat} {v:Value} {l:List α} (h:OwnS T E I w B v l):SrcS T I w v l:=by
 obtain ⟨xs,h1,h2⟩:=h
 rcases id h1.2 with ⟨hv,h0⟩|⟨g,cap,cur,hv,_⟩
 ·exact ⟨none,0,xs,by rw [h0];exact hv,h2,fun h=>by omega⟩
 ·refine ⟨_,cap,xs,hv,h2,fun _=>⟨_,rfl,fun j u hu=> ?_⟩⟩
  exact h1.cells (by rw [hv];rfl) j u hu
def AddR (I:IH) (B:Nat) (w:World) (v:Value) (l:List Xt) (e:Ending) (w':World):Prop:=
 ∃v',e= .returned v'∧OwnS tXt 91 I w' B v' l∧w.grownBy w' v.ownBlock∧ ∀g,v'.ownBlock=some g→v.ownBlock=some g∨w.heap.size≤g
theorem Xhr {s:Bytes} {k h:Nat} (hk:k<s.length) {N:Nat} (hr:firstG (s.drop k) k h=N):(if k+1=96∨(16≤k+1∧ckH h (s.getD k 0)<2048) then k+1 else firstG (s.drop (k+1)) (k+1) (ckH h (s.getD k 0)))=N:=by
 rw [List.drop_eq_getElem_cons hk,firstG] at hr
 rw [←hr];simp [List.getD,hk]
theorem Xux (h:Nat) (b:UInt8):ckH h b<65536:=Nat.mod_lt _ (by decide)
theorem Xr7 (h:Nat) (b:UInt8):((2*(h:Int)+40503*((b.toNat:Int)+1))%65536)=((ckH h b:Nat):Int):=by unfold ckH;omega
set_option maxRecDepth 100000 in
set_option maxHeartbeats 1000000 in
theorem Xmq (s:Bytes) (hs:s.length≤4294967280) (w:World):
 Calls Tryz.prog 114 #[S s] w fun e w'=>e= .returned (.int .i64 (firstP s:Nat))∧Below w.heap.size w w':=by
 obtain ⟨N,hN⟩:∃N,firstP s=N:=⟨_,rfl⟩
 have HN:=Qh (show firstG (s.drop 0) 0 0=N from hN)
 rw [hN]
 clear hN
 go_enter Tryz.func114,Tryz.ntmps114
 go_wp2_with fail
 go_loopw [3,4] (fun s3 s4 wr=> ∃k h:Nat,k≤s.length∧h<65536∧s4= .int .i64 k∧s3= .int .i64 h∧firstG (s.drop k) k h=N∧Below w.heap.size w wr) (fun _ i _=>s.length-(intOf i).toNat)
 case atStart=>exact ⟨0,0,Nat.zero_le _,by decide,rfl,rfl,HN.out,Qb _ _⟩
 case round=>
  clear HN
  obtain ⟨k,h,hk,hh,rfl,rfl,hr,hb⟩:=hrel
  have Hr:=Qh hr
  clear hr
  by_cases hlt:k<s.length
  ·have hx:=run_at (P:=Tryz.prog) Tryz.underlying9 s (k:Int) k rfl hlt
   have Hst:=Qh (Xhr hlt Hr.out)
   have hch:(s.getD k 0).toNat<256:=(s.getD k 0).toNat_lt
   have hcl:=Xux h (s.getD k 0)
   have hce:=Xr7 h (s.getD k 0)
   generalize hH:ckH h (s.getD k 0)=H at Hst hcl hce
   generalize (s.getD k 0).toNat=c at hx hch hce
   have m1:IntKind.i64.wrap (2*(h:Int))=2*(h:Int):=IntWalk.i64_in _ (by omega)
   have m2:IntKind.i64.wrap ((c:Int)+1)=(c:Int)+1:=IntWalk.i64_in _ (by omega)
   have m3:IntKind.i64.wrap (40503*((c:Int)+1))=40503*((c:Int)+1):=IntWalk.i64_in _ (by omega)
   have m4:IntKind.i64.wrap (2*(h:Int)+40503*((c:Int)+1))=2*(h:Int)+40503*((c:Int)+1):=IntWalk.i64_in _ (by omega)
   have m5:IntKind.i64.wrap ((k:Int)+1)=(k:Int)+1:=IntWalk.i64_in _ (by omega)
   clear hH Hr
   by_cases h96:k+1=96
   ·have Hn:=Qh (show k+1=N by have:=Hst.out;rwa [if_pos (.inl h96)] at this)
    have d1:((k:Int)+1==96)=true:=by simpa using (show (k:Int)+1=96 by omega)
    clear Hst h96
    go_wp2
    go_ret
    exact ⟨Xal (by rw [←Hn.out];go_num),hb⟩
   have d1:((k:Int)+1==96)=false:=by simpa using (show (k:Int)+1≠96 by omega)
   by_cases h16:16≤k+1
   ·have d2:decide ((16:Int)≤(k:Int)+1)=true:=Qt (by omega)
    by_cases hlh:H<2048
    ·have Hn:=Qh (show k+1=N by have:=Hst.out;rwa [if_pos (.inr ⟨h16,hlh⟩)] at this)
     have d3:decide ((H:Int)<2048)=true:=Qt (by omega)
     clear Hst h96 h16
     go_wp2
     go_ret
     exact ⟨Xal (by rw [←Hn.out];go_num),hb⟩
    ·have Hn:=Qh (show firstG (s.drop (k+1)) (k+1) H=N by have:=Hst.out;rwa [if_neg (by omega)] at this)
     have d3:decide ((H:Int)<2048)=false:=Qf (by omega)
     clear Hst h96 h16
     go_wp2
     go_roundw
     case rel=>exact ⟨k+1,H,by omega,hcl,by go_num,by rw [hce],Hn.out,hb⟩
     case measure=>simp [intOf];omega
   ·have d2:decide ((16:Int)≤(k:Int)+1)=false:=Qf (by omega)
    have Hn:=Qh (show firstG (s.drop (k+1)) (k+1) H=N by have:=Hst.out;rwa [if_neg (by omega)] at this)
    clear Hst h96 h16
    go_wp2
    go_roundw
    case rel=>exact ⟨k+1,H,by omega,hcl,by go_num,by rw [hce],Hn.out,hb⟩
    case measure=>simp [intOf];omega
  ·have Hn:=Qh (show s.length=N by have:=Hr.out;rw [List.drop_of_length_le (by omega),firstG] at this;omega)
   go_wp2
   go_ret
   exact ⟨Xal (by rw [←Hn.out]),hb⟩
set_option maxRecDepth 100000 in
set_option maxHeartbeats 1000000 in
theorem Xmp (I:IH) (s:Bytes) (hs:s.length≤4294967280) (w:World):
 Calls Tryz.prog 64 #[S s] w fun e w'=> ∃v',e= .returned v'∧OwnS tStr 9 I w' w.heap.size v' (chunksP s)∧Below w.heap.size w w':=by
 have Hst:=Qh (show OwnS tStr 9 I (w.alloc (.cells #[] 9)) w.heap.size (.slice (some ⟨w.heap.size,0,none⟩) 0 0) [] from ⟨[],World.ownsRow_made w #[] 0 (Qn _) (Nat.zero_le _) (by simp),LiesL.nil _ _⟩)
 obtain ⟨N,hN⟩:∃N,chunksP s=N:=⟨_,rfl⟩
 have HN:=Qh (show []++chunksP s=N from hN)
 rw [hN]
 have hs':=hs
 generalize hs0:s=s0 at HN hs'
 clear hN
 go_enter Tryz.func64,Tryz.ntmps64
 go_wp2_with fail
 go_loopw [0,3] (fun s0 s3 wr=> ∃(r:Bytes) (out:List Bytes),s0=S r∧r.length+out.length≤4294967280∧OwnS tStr 9 I wr w.heap.size s3 out∧out++chunksP r=N∧Below w.heap.size w wr) (fun r _ _=>(match r with| .string b=>b.size|_=>0))
 case atStart=>exact ⟨s0,[],rfl,by simpa using hs',Hst.out,HN.out,(Qb _ _).alloc (Qn _) _⟩
 case round=>
  clear Hst HN
  obtain ⟨r,out,rfl,hl,hown,hr,hb⟩:=hrel
  have Hown:=Qh hown
  have Hr:=Qh hr
  clear hown hr
  by_cases h0:r= []
  ·have f1:(0:Int)<(r.length:Int)↔False:=by rw [h0];simp
   have hl0:r.length=0:=by rw [h0];rfl
   have Hn:=Qh (show out=N by have:=Hr.out;rw [h0,Xiu,List.append_nil] at this;exact this)
   clear Hr h0 f1
   go_wp2
   go_ret
   exact ⟨_,rfl,(by rw [←Hn.out];exact Hown.out),hb⟩
  ·have hpos:=List.length_pos_iff.2 h0
   have hp:=Xdb h0
   have hf:=Xhq r
   have Hf:=Qh (fun w=>Xmq r (by omega) w)
   have Hn:=Qh (show (out++ [r.take (firstP r)])++chunksP (r.drop (firstP r))=N by rw [←Hr.out,Xew h0];simp)
   generalize firstP r=n at Hf Hn hp hf
   have hle:(n:Int)≤(r.length:Int):=by omega
   have hle0:(0:Int)≤(n:Int):=by omega
   clear Hr h0
   go_wp2_with fail
   refine (Hf.out _).mono ?_
   rintro e1 w1 ⟨rfl,hb1⟩
   have hb1':=hb.trans (hb1.mono hb.size)
   have Hown1:=Qh (Hown.out.below hb1)
   clear hb1 Hf Hown
   go_wp2_with (at_builtin;refine Xat (w0:=w1) Xb7 rfl _ _ rfl _ _ _ rfl Hown1.out (r.take n) [S (r.take n)] _ rfl rfl (by omega) (by omega) (Below.size hb1') ?_)
   intro v9 w9 hown9 hg9
   have hb9:=Below.own hb1' hg9 Hown1.out (Qn _) (Below.size hb1')
   go_wp2
   go_roundw
   case rel=>exact ⟨r.drop n,_,by simp [List.take_of_length_le],by simp;omega,hown9,Hn.out,hb9⟩
   case measure=>simp [ByteArray.size];omega
set_option maxRecDepth 100000 in
set_option maxHeartbeats 1000000 in
theorem Xmn (s:Bytes) (hs:s.length≤4294967280) (i:Nat) (hi:i≤s.length) (w:World):
 Calls Tryz.prog 113 #[S s,.int .i64 i] w fun e w'=>e= .returned (.int .i64 (zerosP (s.drop i):Nat))∧Below w.heap.size w w':=by
 obtain ⟨N,hN⟩:∃N,zerosP (s.drop i)=N:=⟨_,rfl⟩
 have HN:=Qh (show 0+zerosP (s.drop (i+0))=N by rw [Nat.zero_add];exact hN)
 rw [hN]
 clear hN
 go_enter Tryz.func113,Tryz.ntmps113
 go_wp2_with fail
 go_loopw [5] (fun s5 wr=> ∃n:Nat,i+n≤s.length∧s5= .int .i64 n∧n+zerosP (s.drop (i+n))=N∧Below w.heap.size w wr) (fun n _=>s.length-(intOf n).toNat)
 case atStart=>exact ⟨0,by omega,rfl,HN.out,Qb _ _⟩
 case round=>
  clear HN
  obtain ⟨n,hn,rfl,hr,hb⟩:=hrel
  have Hr:=Qh hr
  clear hr
  have m1:IntKind.i64.wrap ((i:Int)+(n:Int))=(i:Int)+(n:Int):=IntWalk.i64_in _ (by omega)
  by_cases hlt:i+n<s.length
  ·have hx:=run_at (P:=Tryz.prog) Tryz.underlying9 s ((i:Int)+(n:Int)) (i+n) (by omega) hlt
   have d1:decide ((i:Int)+(n:Int)<(s.length:Int))=true:=Qt (by omega)
   have hst:n+(if s.getD (i+n) 0=0 then zerosP (s.drop (i+n+1))+1 else 0)=N:=by
    rw [←Hr.out,List.drop_eq_getElem_cons hlt,zerosP]
    simp [List.getD,hlt]
   have he:=Xtu (s.getD (i+n) 0) 0 (by decide)
   have he':((((s.getD (i+n) 0).toNat:Nat):Int)==0)=(s.getD (i+n) 0==0):=he
   have Hst:=Qh hst
   clear hst he
   generalize s.getD (i+n) 0=ch at hx Hst he'
   cases hc:(ch==0)
   ·rw [hc] at he'
    have Hn:=Qh (show n=N by have:=Hst.out;rwa [if_neg (by simpa using hc),Nat.add_zero] at this)
    clear hc Hst Hr
    go_wp2
    go_ret
    exact ⟨Xal (by rw [←Hn.out]),hb⟩
   ·rw [hc] at he'
    have Hn:=Qh (show n+1+zerosP (s.drop (i+(n+1)))=N by
     have:=Hst.out
     rw [if_pos (by simpa using hc)] at this
     rw [←this,show i+(n+1)=i+n+1 by omega];omega)
    clear hc Hst Hr
    go_wp2
    go_roundw
    case rel=>exact ⟨n+1,by omega,by go_num,Hn.out,hb⟩
    case measure=>simp [intOf];omega
  ·have d1:decide ((i:Int)+(n:Int)<(s.length:Int))=false:=Qf (by omega)
   have Hn:=Qh (show n=N by have:=Hr.out;rwa [List.drop_of_length_le (by omega),zerosP,Nat.add_zero] at this)
   clear Hr
   go_wp2
   go_ret
   exact ⟨Xal (by rw [←Hn.out]),hb⟩
def tSg:Ty Sg:=Ty.flat 2 (fun x=> [.int .i64 x.n,S x.d]) (fun _=>rfl) (fun _ u h=>by simp at h;rcases h with rfl|rfl<;>rfl)
theorem Xvb:(Tryz.prog.info? 117).map (fun i=>(i.zero,i.size,i.bytes))=some (some (.agg #[.int .i64 0,.string ⟨#[]⟩]),2,24):=by kernel_rfl
theorem Xds:ElemOk Tryz.prog 113 117 tSg 24:=ElemOk.of Tryz.underlying113 Xvb rfl (by decide) rfl
theorem sgAt {I:IH} {v:Value} {l:List Sg} {w:World} (h:RdS tSg I v l) (hw:Ok I w) (i:Nat) (hi:i<l.length):∃x b off cap,l[i]=x∧v= .slice (some ⟨b,off,none⟩) l.length cap∧
 w.cell? ⟨b,off+i*2,none⟩=some (.int .i64 x.n)∧w.cell? ⟨b,off+i*2+1,none⟩=some (S x.d):=by
 obtain ⟨b,off,cap,cs,hv,hcs,hc⟩:=h.at_ hw hi
 have hcs':cs= [.int .i64 l[i].n,S l[i].d]:=hcs
 subst hcs'
 exact ⟨_,b,off,cap,rfl,hv,hc 0 _ rfl,hc 1 _ rfl⟩
def accP (s:Bytes) (f i:Nat):Bytes:=(s.drop f).take (i-f)
theorem Xsn {s:Bytes} {i:Nat}:accP s i i= []:=by simp [accP]
theorem Xxk {s:Bytes} {f i:Nat} (hi:i≤s.length):(accP s f i).length=i-f:=by simp [accP];omega
theorem Xup {s:Bytes} {f i m:Nat} (hf:f≤i):accP s f i++(s.drop i).take m=accP s f (i+m):=by
 unfold accP
 rw [show i+m-f=(i-f)+m by omega,List.take_add,List.drop_drop,show f+(i-f)=i by omega]
theorem Xqk {d:Bytes} (h:0<d.length):dataG d= [⟨0,d⟩]:=by
 unfold dataG;rw [if_neg (List.length_pos_iff.1 h)]
theorem Xqj {d:Bytes} (h:d.length=0):dataG d= []:=by
 unfold dataG;rw [if_pos (List.eq_nil_of_length_eq_zero h)]
set_option maxRecDepth 100000 in
set_option maxHeartbeats 2000000 in
theorem Xmo (I:IH) (s:Bytes) (hs:s.length≤4294967280) (w:World):
 Calls Tryz.prog 63 #[S s] w fun e w'=> ∃v',e= .returned v'∧OwnS tSg 117 I w' w.heap.size v' (segsP s)∧Below w.heap.size w w':=by
 have Hst:=Qh (show OwnS tSg 117 I (w.alloc (.cells #[] 117)) w.heap.size (.slice (some ⟨w.heap.size,0,none⟩) 0 0) [] from ⟨[],World.ownsRow_made w #[] 0 (Qn _) (Nat.zero_le _) (by simp),LiesL.nil _ _⟩)
 obtain ⟨N,hN⟩:∃N,segsP s=N:=⟨_,rfl⟩
 have HN:=Qh (show []++segR (accP s 0 0) (s.drop 0)=N by rw [Xsn];exact hN)
 rw [hN]
 clear hN
 go_enter Tryz.func63,Tryz.ntmps63
 go_wp2_with fail
 go_loopw [3,4,5] (fun s3 s4 s5 wr=> ∃(f i:Nat) (out:List Sg),f≤i∧i≤s.length∧s4= .int .i64 f∧s5= .int .i64 i∧out.length≤2*f∧OwnS tSg 117 I wr w.heap.size s3 out∧out++segR (accP s f i) (s.drop i)=N∧Below w.heap.size w wr) (fun _ _ i _=>s.length-(intOf i).toNat)
 case atStart=>exact ⟨0,0,[],Qn _,Nat.zero_le _,rfl,rfl,Qn _,Hst.out,HN.out,(Qb _ _).alloc (Qn _) _⟩
 case round=>
  clear Hst HN
  obtain ⟨f,i,out,hfi,hi,rfl,rfl,hol,hown,hr,hb⟩:=hrel
  have Hown:=Qh hown
  have Hr:=Qh hr
  clear hown hr
  have hal:=Xxk (f:=f) hi
  have f0:(0:Int)≤f:=by omega
  have f1:(f:Int)≤i:=by omega
  have f2:(i:Int)≤s.length:=by omega
  by_cases hlt:i<s.length
  ·have Hz:=Qh (fun w=>Xmn s hs i hi w)
   have hne:s.drop i≠ []:=by
    intro e
    have:=congrArg List.length e
    rw [List.length_drop] at this
    simp at this;omega
   have hzl:=Xey (s.drop i)
   rw [List.length_drop] at hzl
   have Hh:=Qh (fun h=>Xnp (acc:=accP s f i) hne h)
   have Hd:=Qh (fun h=>Xnq (acc:=accP s f i) hne h)
   obtain ⟨z,hz⟩:∃z,zerosP (s.drop i)=z:=⟨_,rfl⟩
   rw [hz] at Hz hzl Hh Hd
   clear hne hz
   go_wp2_with fail
   refine (Hz.out _).mono ?_
   rintro e1 w1 ⟨rfl,hb1⟩
   have hb1':=hb.trans (hb1.mono hb.size)
   have Hown1:=Qh (Hown.out.below hb1)
   clear hb1 Hz Hown
   by_cases h32:32≤z
   ·have d1:decide ((32:Int)≤(z:Int))=true:=Qt (by omega)
    have hi2:=hi
    have hn:out++(dataG (accP s f i)++⟨(z:Nat),[]⟩::segR (accP s (i+z) (i+z)) (s.drop (i+z)))=N:=by
     rw [Xsn,←Hr.out,Hh.out h32,List.drop_drop]
    have Hn:=Qh hn
    clear hn Hh Hd Hr
    by_cases hgt:f<i
    ·have Hn2:=Qh (show (out++ [⟨0,accP s f i⟩])++ [⟨(z:Nat),[]⟩]++segR (accP s (i+z) (i+z)) (s.drop (i+z))=N by
      rw [←Hn.out,Xqk (by omega)];simp)
     have hg2:(f:Int)<i:=by omega
     clear Hn
     go_wp2_with (at_builtin;refine Xat (w0:=w1) Xds rfl _ _ rfl _ _ _ rfl Hown1.out ⟨0,accP s f i⟩ [.int .i64 0,S (accP s f i)] _ rfl rfl (by (try simp only [List.length_append,List.length_singleton]);omega) (by (try simp only [List.length_append,List.length_singleton]);omega) (Below.size hb1') ?_)
     intro v9 w9 hown9 hg9
     have hb9:=Below.own hb1' hg9 Hown1.out (Qn _) (Below.size hb1')
     go_wp2_with (at_builtin;refine Xat (w0:=w9) Xds rfl _ _ rfl _ _ _ rfl hown9 ⟨(z:Nat),[]⟩ [.int .i64 z,S []] _ rfl rfl (by (try simp only [List.length_append,List.length_singleton]);omega) (by (try simp only [List.length_append,List.length_singleton]);omega) (Below.size hb9) ?_)
     intro v8 w8 hown8 hg8
     have hb8:=Below.own hb9 hg8 hown9 (Qn _) (Below.size hb9)
     go_wp2
     go_roundw
     case rel=>exact ⟨i+z,i+z,_,Qn _,by omega,by go_num,by go_num,by simp;omega,hown8,by simpa using Hn2.out,hb8⟩
     case measure=>simp [intOf];omega
    ·have hif:i=f:=by omega
     have Hn2:=Qh (show out++ [⟨(z:Nat),[]⟩]++segR (accP s (i+z) (i+z)) (s.drop (i+z))=N by
      rw [←Hn.out,Xqj (by omega)];simp)
     have hg2:¬(f:Int)<i:=by omega
     clear Hn
     go_wp2_with (at_builtin;refine Xat (w0:=w1) Xds rfl _ _ rfl _ _ _ rfl Hown1.out ⟨(z:Nat),[]⟩ [.int .i64 z,S []] _ rfl rfl (by (try simp only [List.length_append,List.length_singleton]);omega) (by (try simp only [List.length_append,List.length_singleton]);omega) (Below.size hb1') ?_)
     intro v9 w9 hown9 hg9
     have hb9:=Below.own hb1' hg9 Hown1.out (Qn _) (Below.size hb1')
     go_wp2
     go_roundw
     case rel=>exact ⟨i+z,i+z,_,Qn _,by omega,by go_num,by go_num,by simp;omega,hown9,Hn2.out,hb9⟩
     case measure=>simp [intOf];omega
   ·have d1:decide ((32:Int)≤(z:Int))=false:=Qf (by omega)
    have Hn:=Qh (show out++segR (accP s f (i+max z 1)) (s.drop (i+max z 1))=N by
     rw [←Hr.out,Hd.out h32,Xup hfi,List.drop_drop])
    clear Hh Hd Hr
    by_cases hz0:z=0
    ·have hze:((z:Int)==0)=true:=by rw [hz0];rfl
     have Hn2:=Qh (show out++segR (accP s f (i+1)) (s.drop (i+1))=N by rw [←Hn.out,hz0];rfl)
     clear Hn
     go_wp2
     go_roundw
     case rel=>exact ⟨f,i+1,_,by omega,by omega,rfl,by go_num,hol,Hown1.out,Hn2.out,hb1'⟩
     case measure=>simp [intOf];omega
    ·have hze:((z:Int)==0)=false:=by simpa using hz0
     have Hn2:=Qh (show out++segR (accP s f (i+z)) (s.drop (i+z))=N by rw [←Hn.out,Nat.max_eq_left (by omega)])
     clear Hn
     go_wp2
     go_roundw
     case rel=>exact ⟨f,i+z,_,by omega,by omega,rfl,by go_num,hol,Hown1.out,Hn2.out,hb1'⟩
     case measure=>simp [intOf];omega
  ·have hie:i=s.length:=by omega
   have hn:out++dataG (accP s f i)=N:=by have:=Hr.out;rwa [List.drop_of_length_le (by omega),Xqm] at this
   have Hn:=Qh hn
   clear hn Hr
   by_cases hgt:f<s.length
   ·have Hn2:=Qh (show out++ [⟨0,accP s f i⟩]=N by rw [←Hn.out,Xqk (by omega)])
    have hg2:(f:Int)<s.length:=by omega
    clear Hn
    subst hie
    go_wp2_with (at_builtin;refine Xat (w0:=wr) Xds rfl _ _ rfl _ _ _ rfl Hown.out ⟨0,accP s f s.length⟩ [.int .i64 0,S (accP s f s.length)] _ rfl rfl (by (try simp only [List.length_append,List.length_singleton]);omega) (by (try simp only [List.length_append,List.length_singleton]);omega) (Below.size hb) ?_)
    intro v9 w9 hown9 hg9
    have hb9:=Below.own hb hg9 Hown.out (Qn _) (Below.size hb)
    go_wp2
    go_ret
    exact ⟨_,rfl,(by rw [←Hn2.out];exact hown9),hb9⟩
   ·have hif:i=f:=by omega
    have Hn2:=Qh (show out=N by rw [←Hn.out,Xqj (by omega),List.append_nil])
    have hg2:¬(f:Int)<s.length:=by omega
    clear Hn
    go_wp2
    go_ret
    exact ⟨_,rfl,(by rw [←Hn2.out];exact Hown.out),hb⟩
def tCk:Ty Ck:=Ty.flat 4 (fun c=> [S c.d,.int .i64 c.x.s,.int .i64 c.x.o,.int .i64 c.x.n]) (fun _=>rfl) (fun _ u h=>by simp at h;rcases h with rfl|rfl|rfl|rfl<;>rfl)
theorem Xw2:(Tryz.prog.info? 142).map (fun i=>(i.zero,i.size,i.bytes))=some (some (.agg #[.string ⟨#[]⟩,.int .i64 0,.int .i64 0,.int .i64 0]),4,40):=by kernel_rfl
theorem Xw3:ElemOk Tryz.prog 41 142 tCk 40:=ElemOk.of Tryz.underlying41 Xw2 rfl (by decide) rfl
theorem ckAt {I:IH} {v:Value} {l:List Ck} {w:World} (h:RdS tCk I v l) (hw:Ok I w) (i:Nat) (hi:i<l.length):∃x b off cap,l[i]=x∧v= .slice (some ⟨b,off,none⟩) l.length cap∧
 w.cell? ⟨b,off+i*4,none⟩=some (S x.d)∧w.cell? ⟨b,off+i*4+1,none⟩=some (.int .i64 x.x.s)∧w.cell? ⟨b,off+i*4+2,none⟩=some (.int .i64 x.x.o)∧w.cell? ⟨b,off+i*4+3,none⟩=some (.int .i64 x.x.n):=by
 obtain ⟨b,off,cap,cs,hv,hcs,hc⟩:=h.at_ hw hi
 have hcs':cs= [S l[i].d,.int .i64 l[i].x.s,.int .i64 l[i].x.o,.int .i64 l[i].x.n]:=hcs
 subst hcs'
 exact ⟨_,b,off,cap,rfl,hv,hc 0 _ rfl,hc 1 _ rfl,hc 2 _ rfl,hc 3 _ rfl⟩
abbrev stoV (s:Sto) (vc:Value):Value:= .agg #[vc,.int .i64 s.ses,S s.str]
def findR (l:List Ck) (d:Bytes):Xt × Bool:=match findX l d with|some x=>(x,true)|none=>(⟨0,0,0⟩,false)
end Go.Proofs.YtjdednajelommaaGreatDoor
