/-
  Walks and laws that the claim's theorem uses: texts CkD CkE Trj HiQ HiR, joined; comments out. Conditions: as each theorem says.
-/
import Derived.Test.YtmdfjnhfhidmhaaGreatDoorK09
set_option linter.all false
namespace Go.Proofs.YtmdfjnhfhidmhaaGreatDoor
open Go.RowKit
def tCk:Ty Ck:=Ty.flat 4 (fun c=> [S c.d,.int .i64 c.x.s,.int .i64 c.x.o,.int .i64 c.x.n]) (fun _=>rfl) (fun _ u h=>by simp at h;rcases h with rfl|rfl|rfl|rfl<;>rfl)
theorem Xtx:(Tryz.prog.info? 156).map (fun i=>(i.zero,i.size,i.bytes))=some (some (.agg #[.string ⟨#[]⟩,.int .i64 0,.int .i64 0,.int .i64 0]),4,40):=by kernel_rfl
theorem Xty:ElemOk Tryz.prog 38 156 tCk 40:=ElemOk.of Tryz.underlying38 Xtx rfl (by decide) rfl
theorem ckAt {I:IH} {v:Value} {l:List Ck} {w:World} (h:RdS tCk I v l) (hw:Ok I w) (i:Nat) (hi:i<l.length):∃x b off cap,l[i]=x∧v= .slice (some ⟨b,off,none⟩) l.length cap∧
 w.cell? ⟨b,off+i*4,none⟩=some (S x.d)∧w.cell? ⟨b,off+i*4+1,none⟩=some (.int .i64 x.x.s)∧w.cell? ⟨b,off+i*4+2,none⟩=some (.int .i64 x.x.o)∧w.cell? ⟨b,off+i*4+3,none⟩=some (.int .i64 x.x.n):=by
 obtain ⟨b,off,cap,cs,hv,hcs,hc⟩:=h.at_ hw hi
 have hcs':cs= [S l[i].d,.int .i64 l[i].x.s,.int .i64 l[i].x.o,.int .i64 l[i].x.n]:=hcs
 subst hcs'
 exact ⟨_,b,off,cap,rfl,hv,hc 0 _ rfl,hc 1 _ rfl,hc 2 _ rfl,hc 3 _ rfl⟩
abbrev stoV (s:Sto) (vc:Value):Value:= .agg #[vc,.int .i64 s.ses,S s.str]
def findR (l:List Ck) (d:Bytes):Xt × Bool:=match findX l d with|some x=>(x,true)|none=>(⟨0,0,0⟩,false)
theorem Xck {W:World} {n:Nat} {a b c x y z:Value} {t:TypeId} (h:W.heap[n]? =some (.cells #[a,b,c] t (0,0))):(((W.setCell ⟨n,0,none⟩ x).setCell ⟨n,1,none⟩ y).setCell ⟨n,2,none⟩ z).heap[n]? =some (.cells #[x,y,z] t (0,0)):=by
 have:=heap_setCell_same _ n 2 _ _ z (heap_setCell_same _ n 1 _ _ y (heap_setCell_same W n 0 _ _ x h))
 simpa using this
abbrev stoC (s:Sto) (vc:Value):Array Value:= #[vc,.int .i64 s.ses,S s.str]
structure PutM (n:Nat) (J:IH) (W:World) (s:Sto) (l:List Xt) (vc vo:Value):Prop where
 row:W.heap[n]? =some (.cells #[vc,.int .i64 s.ses,S s.str] 40 (0,0))
 res:W.heap[n+1]? =some (.cells #[.slice none 0 0,.int .i64 0,S []] 40 (0,0))
 cks:RdS tCk J vc s.cks
 own:OwnS tXt 109 J W (n+2) vo l
 apart:∀g,vo.ownBlock=some g→J g=none
 ok:Ok J W
 free:J n=none
 freR:J (n+1)=none
section
variable {n:Nat} {I J J':IH} {W W':World} {s s':Sto} {l l':List Xt} {vc vc' vo vo':Value}
end
theorem Xca {W w':World} {a:Addr} {x:Value} {row:Option Nat} (hg:W.grownBy w' row) (hne:row≠some a.block) (h:W.cell? a=some x) (hf:W.frozen? a=false):w'.frozen? a=false:=
 (World.frozen?_of_block (hg.block _ (block_lt_of_cell h) (fun e=>hne e.symm))).trans hf
theorem OwnS.freezeA {α:Type} {T:Ty α} {E:TypeId} {I:IH} {w:World} {B:Nat} {v:Value} {l:List α} (h:OwnS T E I w B v l) (hw:Ok I w) (hI:∀g,v.ownBlock=some g→I g=none):∃I',(∀b c,I b=some c→I' b=some c)∧Ext B I I'∧Ok I' w∧RdS T I' v l∧ ∀b,v.ownBlock≠some b→I' b=I b:=by
 obtain ⟨xs,⟨h1,h1'⟩,h2⟩:=h
 rcases h1' with ⟨rfl,h0⟩|⟨g,cap,cur,rfl,hb,hg,hnc,hcm,hcs,ht⟩
 ·refine ⟨I,fun _ _ h=>h,Ext.refl _ _,hw,?_,fun _ _=>rfl⟩
  have:l= []:=List.eq_nil_of_length_eq_zero h0
  subst this
  exact RdS.nil T I
 ·have hkeep:∀b c,I b=some c→(I.add g cur) b=some c:=fun b c hc=>by
   unfold IH.add
   by_cases e:b=g
   ·subst e;rw [hI _ rfl] at hc;cases hc
   ·rw [if_neg e];exact hc
  refine ⟨I.add g cur,hkeep,Ext.add hb I cur,hw.add hg,⟨_,cap,rfl,hnc,hcm,fun _=>⟨g,0,cur,rfl,by simp [IH.add],fun i hi=> ?_⟩⟩,fun b hbn=> ?_⟩
  ·obtain ⟨cs,k1,k2⟩:=h2.2 i hi
   refine ⟨cs,T.mono hkeep k1,fun j u hu=> ?_⟩
   have hx:=k2 j u hu
   rw [←ht,List.getElem?_take] at hx
   split at hx
   ·rw [Nat.zero_add,←Array.getElem?_toList];exact hx
   ·cases hx
  ·have:b≠g:=fun e=>hbn (by simp [Value.ownBlock,e])
   simp [IH.add,this]
theorem Xc7:∀ {l:List Bytes} {c:Bytes},c∈l→c.length≤l.flatten.length
 |x::l,c,h=>by
  rw [List.flatten_cons,List.length_append]
  rcases List.mem_cons.1 h with rfl|h
  ·omega
  ·have:=Xc7 h;omega
theorem Xqw {α:Type} {T:Ty α} {E:TypeId} {I:IH} {w:World} {B:Nat} {v:Value} {l:List α} {x:α} (h:OwnS T E I w B v (l++ [x])):∃g n cap,v= .slice (some ⟨g,0,none⟩) n cap:=by
 obtain ⟨xs,h1,_⟩:=h
 rcases h1.2 with ⟨_,h0⟩|⟨g,cap,cur,h,_⟩
 ·simp at h0
 ·exact ⟨_,_,_,h⟩
structure BdP (L C:Nat) (m:Nat) (s:Sto) (l:List Xt):Prop where
 s0:1≤s.ses
 s1:s.ses≤255
 str:s.str.length≤L+65536*m
 cks:s.cks.length≤C+m
 cx:∀c∈s.cks,XB 65536 c.x
 len:l.length≤m
 xs:∀z∈l,XB (65536*m) z
theorem BdP.add {L C m:Nat} {s:Sto} {l:List Xt} (h:BdP L C m s l) {x:Xt} (hx:XB 65536 x):BdP L C (m+1) s (addX l x):=
 ⟨h.s0,h.s1,by have:=h.str;omega,by have:=h.cks;omega,h.cx,by have:=(Xl9 l x).1;have:=h.len;omega,fun z hz=>(Xpx (by decide) h.xs hx (by omega) z hz).mono (by omega)⟩
theorem Xfu:∀ {l:List Ck} {d:Bytes} {x:Xt},findX l d=some x→ ∃c∈l,c.x=x
 |c::l,d,x,h=>by
  rw [findX] at h
  split at h
  ·exact ⟨c,List.mem_cons_self ..,Option.some.inj h⟩
  ·obtain ⟨c',h1,h2⟩:=Xfu h
   exact ⟨c',List.mem_cons_of_mem _ h1,h2⟩
theorem Xhp {L C m:Nat} {s:Sto} {l:List Xt} (h:BdP L C m s l) (hL:L≤4294967296) (hm:m≤65536) {c:Bytes} (hc:c.length≤65536):XB 65536 (newX s c):=by
 have:=h.s0;have:=h.s1;have:=h.str
 unfold XB newX
 simp only
 omega
theorem BdP.grow {L C m:Nat} {s:Sto} {l:List Xt} (h:BdP L C m s l) (hL:L≤4294967296) (hm:m≤65536) {c:Bytes} (hc:c.length≤65536):
 BdP L C (m+1) ⟨s.cks++ [⟨sumP c,newX s c⟩],s.ses,s.str++c⟩ (addX l (newX s c)):=by
 have ha:=h.add (Xhp h hL hm hc)
 refine ⟨h.s0,h.s1,?_,?_,fun k hk=> ?_,ha.len,ha.xs⟩
 ·have:=h.str;simp;omega
 ·have:=h.cks;simp;omega
 ·rcases List.mem_append.1 hk with hk|hk
  ·exact h.cx k hk
  ·simp at hk;subst hk;exact Xhp h hL hm hc
theorem BdP.grow' {L C m:Nat} {s:Sto} {l:List Xt} (h:BdP L C m s l) (hL:L≤4294967296) (hm:m≤65536) {c dg:Bytes} (hc:c.length≤65536):
 BdP L C (m+1) ⟨s.cks++ [⟨dg,newX s c⟩],s.ses,s.str++c⟩ (addX l (newX s c)):=by
 have ha:=h.grow hL hm hc
 refine ⟨h.s0,h.s1,ha.str,by have:=ha.cks;simpa using this,fun k hk=> ?_,ha.len,ha.xs⟩
 rcases List.mem_append.1 hk with hk|hk
 ·exact h.cx k hk
 ·simp at hk;subst hk;exact Xhp h hL hm hc
theorem Xoc {s:Sto} {c:Bytes} {l:List Xt} {x:Xt} (h:findX s.cks (sumP c)=some x):putO (s,l) c=(s,addX l x):=by
 unfold putO putC;simp only [h]
theorem Xob {s:Sto} {c:Bytes} {l:List Xt} (h:findX s.cks (sumP c)=none):putO (s,l) c=(⟨s.cks++ [⟨sumP c,newX s c⟩],s.ses,s.str++c⟩,addX l (newX s c)):=by
 unfold putO putC;simp only [h]
theorem Xjb {α β:Type} {f:β→α→β} {l:List α} {k:Nat} {p R:β} (hk:k<l.length) {x:α} (hx:l[k]=x) (h:(l.drop k).foldl f p=R):(l.drop (k+1)).foldl f (f p x)=R:=by
 rw [List.drop_eq_getElem_cons hk,hx,List.foldl_cons] at h;exact h
end Go.Proofs.YtmdfjnhfhidmhaaGreatDoor
namespace Go.Proofs.YtmdfjnhfhidmhaaGreatDoor
def meaning (x y:Ent):Bool:=decide (x.kind=y.kind)&&decide (x.attrs=y.attrs)&&decide (x.target=y.target)&&decide (x.size=y.size)&&decide (x.digest=y.digest)
def diffM:List Ent→List Ent→List Bytes
 | [],[]=> []
 |x::a,[]=>x.path::diffM a []
 | [],y::b=>y.path::diffM [] b
 |x::a,y::b=>if ltE x y then x.path::diffM a (y::b) else if ltE y x then y.path::diffM (x::a) b else if meaning x y then diffM a b else x.path::diffM a b
termination_by a b=>a.length+b.length
def SrtP (l:List Bytes):Prop:=l.Pairwise fun p q=>ltP (els p) (els q)=true
def DiffAt (a b:List Ent) (p:Bytes):Prop:=(∃x∈a,x.path=p∧ ∀y∈b,y.path=p→meaning x y=false)∨(∃y∈b,y.path=p∧ ∀x∈a,x.path≠p)
end Go.Proofs.YtmdfjnhfhidmhaaGreatDoor
namespace Go.Proofs.YtmdfjnhfhidmhaaGreatDoor
theorem Xnv {s:Stt} {e:Ent} {d:Int} (h:(stpP s e d).2=0):applyT s.tree e=((applyT s.tree e).1,0)∧(stpP s e d).1.tree=opT s.tree e∧entErr e=0:=by
 unfold stpP at*
 split at h
 ·contradiction
 ·rename_i h1
  have ha:=Xde (t:=s.tree) (e:=e) (by omega)
  obtain ⟨hp,hx⟩:=applyT_iff.1 ha
  split at h
  ·contradiction
  ·rename_i h2
   split at h
   ·contradiction
   ·rename_i h3
    rw [if_neg h1,if_neg h2,if_neg h3]
    exact ⟨ha,hx,hp.ent⟩
def lastE (i:Option Ent) (l:List Ver):Option Ent:=l.foldl (fun _ v=>if v.e.kind=4 then none else some v.e) i
def AllOk (d:Int):Stt→List Ent→Prop
 |_,[]=>True
 |s,e::es=>(stpP s e d).2=0∧AllOk d (stpP s e d).1 es
def AllSes:Stt→List Ses→Prop
 |_,[]=>True
 |s,x::xs=>AllOk x.date s x.ents∧AllSes (runS s x.date x.ents) xs
structure SesIn (i:Nat) (prev:Bytes) (date:Int) (x:Ses):Prop where
 dig:(dirDig x).2=0
 num:x.num=i+1
 date:date≤x.date
 prev:x.prev=prev
end Go.Proofs.YtmdfjnhfhidmhaaGreatDoor
namespace Go.Proofs.YtmdfjnhfhidmhaaGreatDoor
theorem Xnh (s:Stt) (a b:List Ses):aftS s (a++b)=aftS (aftS s a) b:=List.foldl_append
def writes (p:Bytes) (e:Ent):Bool:=decide (e.kind≤3)&&e.path==p
def wrCount (p:Bytes) (l:List Ses):Nat:=(l.flatMap fun x=>x.ents.filter (writes p)).length
def keeps (v:Ver):Bool:=decide (v.e.kind≠4)
def AltOk:Bool→List Ver→Prop
 |_,[]=>True
 |r,v::vs=>if v.e.kind=4 then r=false∧AltOk true vs else AltOk false vs
end Go.Proofs.YtmdfjnhfhidmhaaGreatDoor
