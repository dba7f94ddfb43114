/-
  Walks and laws that the claim's theorem uses: texts ApS CkC CkA CkB, joined; comments out. Conditions: as each theorem says.
-/
import Derived.RegionTactic
import Derived.Test.YtmdfjnhfhidmhaaGreatDoorK08
import Derived.Maps.AppendAt
import Derived.Laws.OwnMore
set_option linter.all false
namespace Go.Proofs.YtmdfjnhfhidmhaaGreatDoor
open Go.RowKit
section
variable {P:Program} {α:Type} {T:Ty α} {I:IH}
theorem Xe6 {t ty e:TypeId} {i:TypeInfo} (ht:P.underlying t=some (.slice e)) (hi:P.info? e=some i) (w:World) (b ao:Option Addr) (n cap c:Nat) (hn:n≤cap):
 (Builtin.append_ #[t,t] ty #[.slice b n cap,.slice ao 0 c]).run P w= .ok (.slice b n cap) w:=by
 cases b<;>cases ao<;>simp [Builtin.append_,run_underlying ht,sizeOf,typeInfo,hi,Builtin.lenOf,Builtin.firstCells,loadCells,loadCellsFrom,hn,storeCells]
def SrcS (T:Ty α) (I:IH) (w:World) (v:Value) (l:List α):Prop:=
 ∃ao c cs,v= .slice ao l.length c∧LiesL T I cs l∧(0<l.length→ ∃ad,ao=some ad∧ ∀j u,cs[j]? =some u→w.cell? (ad.add j)=some u)
theorem SrcS.of_one {w:World} {x:α} {cs:List Value} {g:Nat} (hx:T.rd I cs x) (hc:∀j u,cs[j]? =some u→w.cell? ⟨g,j,none⟩=some u):SrcS T I w (.slice (some ⟨g,0,none⟩) 1 1) [x]:=
 ⟨_,_,cs,rfl,LiesL.one hx,fun _=>⟨_,rfl,fun j u hu=>by rw [Addr.add_lit,Nat.zero_add];exact hc j u hu⟩⟩
end
theorem Xa7 {α:Type} {T:Ty α} {I:IH} {P:Program} {ts te:TypeId} {bytes:Nat} (hE:ElemOk P ts te T bytes) {w0:World} {ops:Array Oper} {rest:List Oper} {o:Oper} {a:Act} {Q:Exit→Act→World→Prop} (hgd:o.guard=none) (s x:Operand)
 (ho:o.op= .call { callee:= .builtin .append,args:= #[s,x],argTypes:= #[ts,ts] }) (B:Nat) (v:Value) (l:List α) (hs:a.eval s=v) (hown:OwnS T te I w0 B v l)
 (y:α) (cs:List Value) (tb:TypeId) (hx:a.eval x= .slice (some ⟨w0.heap.size,0,none⟩) 1 1) (hy:T.rd I cs y) (hbig:(l.length+1)*bytes≤140737488355328) (hl:l.length+1≤9223372036854775807) (hB:B≤w0.heap.size)
 (h:∀v' w',OwnS T te I w' B v' (l++ [y])→w0.grownBy w' v.ownBlock→(∀g,v'.ownBlock=some g→v.ownBlock=some g∨w0.heap.size≤g)→wpList P ops Q rest (a.put o.dst v') w'):wpList P ops Q (o::rest) a (w0.alloc (.cells cs.toArray tb)):=by
 obtain ⟨i,z,h1,h2,h3,h4,h5,h6,h7⟩:=hE
 obtain ⟨xs,k1,k2⟩:=hown
 refine wpList_append_own_at (w0.alloc (.cells cs.toArray tb)) hgd s x ts ho B te i z T.size bytes h1 h2 h3 h4 h5 h6 h7 v l.length xs hs (k1.alloc _) ⟨w0.heap.size,0,none⟩ 1 1 cs hx (by rw [T.len hy,Nat.one_mul])
  (fun j u hu=>by rw [Addr.add_lit,Nat.zero_add,World.cell?_alloc_new];simpa using hu) (T.one hy) (by unfold maxLen;omega) hbig (by simp;omega) (fun v' w' r1 r2 _ r4=>h v' w' ⟨xs++cs,by rw [List.length_append];exact r1,k2.append (LiesL.one hy)⟩ ?_ ?_)
 ·exact ⟨r2.os,r2.tape,r2.output,by have:=r2.size;simp at this;omega,fun k hk hne=>(r2.block k (by simp;omega) hne).trans (Below.heap_alloc _ _ _ hk)⟩
 ·intro g hg
  rcases r4 with r4|r4
  ·exact .inl (r4▸hg)
  ·rw [r4] at hg
   simp at hg
   exact .inr (by omega)
theorem Xbm {w w':World} (hb:Below w.heap.size w w') (row:Option Nat):w.grownBy w' row:=⟨hb.os,hb.tape,hb.output,hb.size,fun k hk _=>hb.block k hk⟩
theorem Xb5 {w w1 w2:World} {row:Option Nat} (h1:w.grownBy w1 row) (h2:w1.grownBy w2 row):w.grownBy w2 row:=
 ⟨h2.os.trans h1.os,h2.tape.trans h1.tape,h2.output.trans h1.output,Nat.le_trans h1.size h2.size,fun k hk hne=>(h2.block k (Nat.lt_of_lt_of_le hk h1.size) hne).trans (h1.block k hk hne)⟩
def XB (n:Int) (x:Xt):Prop:=0≤x.s∧x.s≤255∧0≤x.o∧x.o≤1099511627776∧0≤x.n∧x.n≤n
theorem XB.mono {n m:Int} {x:Xt} (h:XB n x) (hm:n≤m):XB m x:=by unfold XB at *;omega
section
variable {I:IH} {W:World} {B:Nat} {v:Value} {l:List Xt}
theorem Xld (h:OwnS tXt 109 I W B v l) (h0:0<l.length):∃g cap y,v= .slice (some ⟨g,0,none⟩) l.length cap∧l.length≤cap∧l.getLast? =some y∧B≤g∧g<W.heap.size∧
 W.cell? ⟨g,(l.length-1)*3,none⟩=some (.int .i64 y.s)∧W.cell? ⟨g,(l.length-1)*3+1,none⟩=some (.int .i64 y.o)∧W.cell? ⟨g,(l.length-1)*3+2,none⟩=some (.int .i64 y.n)∧(∀j,W.frozen? ⟨g,j,none⟩=false):=by
 obtain ⟨xs,h1,h2⟩:=h
 rcases h1.2 with ⟨_,hz⟩|⟨g,cap,cur,hv,hb,hg,hnc,_⟩
 ·omega
 subst hv
 have hlt:g<W.heap.size:=(Array.getElem?_eq_some_iff.1 hg).1
 have hxl:xs.length=l.length*3:=h2.1
 have hi:l.length-1<l.length:=by omega
 obtain ⟨cs,k1,k2⟩:=h2.2 (l.length-1) hi
 have k1':cs= [.int .i64 (l[l.length-1]).s,.int .i64 (l[l.length-1]).o,.int .i64 (l[l.length-1]).n]:=k1
 subst k1'
 refine ⟨g,cap,l[l.length-1],rfl,hnc,by rw [List.getLast?_eq_getElem?,List.getElem?_eq_getElem hi],hb,hlt,?_,?_,?_,fun j=>h1.frozenAt j⟩
 ·rw [h1.cellAt _ (by show (l.length-1)*3<l.length*3;omega)];exact k2 0 _ rfl
 ·rw [h1.cellAt _ (by show (l.length-1)*3+1<l.length*3;omega)];exact k2 1 _ rfl
 ·rw [h1.cellAt _ (by show (l.length-1)*3+2<l.length*3;omega)];exact k2 2 _ rfl
theorem Xqv {g cap:Nat} {y:Xt} {n:Int} (h:OwnS tXt 109 I W B (.slice (some ⟨g,0,none⟩) l.length cap) l) (hy:l.getLast? =some y):
 OwnS tXt 109 I (W.setCell ⟨g,(l.length-1)*3+2,none⟩ (.int .i64 n)) B (.slice (some ⟨g,0,none⟩) l.length cap) (l.dropLast++ [⟨y.s,y.o,n⟩]):=by
 obtain ⟨xs,h1,h2⟩:=h
 have h0:0<l.length:=by cases l with
  |nil=>simp at hy
  |cons a l=>simp
 have hl:(l.dropLast++ [(⟨y.s,y.o,n⟩:Xt)]).length=l.length:=by simp;omega
 have hs:=(h1.stored ((l.length-1)*3+2) (.int .i64 n)).1
 refine ⟨_,by rw [hl];exact hs,by rw [hl,List.length_set];exact h2.1,fun i hi=> ?_⟩
 rw [hl] at hi
 obtain ⟨cs,k1,k2⟩:=h2.2 i hi
 by_cases he:i=l.length-1
 ·have hyl:l[i]=y:=by
   have:l.getLast? =some l[i]:=by rw [List.getLast?_eq_getElem?,←he,List.getElem?_eq_getElem hi]
   rw [hy] at this;exact (Option.some.inj this).symm
  have k1':cs= [.int .i64 (l[i]).s,.int .i64 (l[i]).o,.int .i64 (l[i]).n]:=k1
  rw [hyl] at k1'
  subst k1'
  refine ⟨[.int .i64 y.s,.int .i64 y.o,.int .i64 n],?_,fun j u hu=> ?_⟩
  ·show _=_
   rw [List.getElem_append_right (by simp;omega)]
   simp
  ·have hxl:xs.length=l.length*3:=h2.1
   match j,hu with
   |0,hu=>
    rw [List.getElem?_set_ne (by show (l.length-1)*3+2≠i*3+0;omega)];exact (k2 0 _ rfl).trans hu
   |1,hu=>
    rw [List.getElem?_set_ne (by show (l.length-1)*3+2≠i*3+1;omega)];exact (k2 1 _ rfl).trans hu
   |2,hu=>
    have e:i*tXt.size+2=(l.length-1)*3+2:=by show i*3+2=_;omega
    rw [e,List.getElem?_set_self (by omega)];exact hu
 ·refine ⟨cs,?_,fun j u hu=> ?_⟩
  ·rw [List.getElem_append_left (by simp;omega),List.getElem_dropLast];exact k1
  ·have hj:j<3:=by rw [←show cs.length=3 from tXt.len k1];exact (List.getElem?_eq_some_iff.1 hu).1
   rw [List.getElem?_set_ne (by show (l.length-1)*3+2≠i*3+j;omega)];exact k2 j u hu
end
abbrev xtW (x:Xt):Value:= .agg #[.int .i64 x.s,.int .i64 x.o,.int .i64 x.n]
abbrev xtL (x:Xt):List Value:= [.int .i64 x.s,.int .i64 x.o,.int .i64 x.n]
theorem Xsf:(Tryz.prog.info? 109).map (fun i=>(i.zero,i.size,i.bytes))=some (some (.agg #[.int .i64 0,.int .i64 0,.int .i64 0]),3,24):=by kernel_rfl
theorem Xg9:ElemOk Tryz.prog 79 109 tXt 24:=ElemOk.of Tryz.underlying79 Xsf rfl (by decide) rfl
theorem Xl7 (x:Xt):addX [] x= [x]:=rfl
theorem Xma {l:List Xt} {y x:Xt} (h:l.getLast? =some y) (hn:¬(x.s≠0∧y.s=x.s∧y.o+y.n=x.o)):addX l x=l++ [x]:=by
 unfold addX;rw [h];show (if _ then _ else _)=_;rw [if_neg hn]
theorem Xl8 {l:List Xt} {y x:Xt} (h:l.getLast? =some y) (hn:x.s≠0∧y.s=x.s∧y.o+y.n=x.o):addX l x=l.dropLast++ [⟨y.s,y.o,y.n+x.n⟩]:=by
 unfold addX;rw [h];show (if _ then _ else _)=_;rw [if_pos hn]
theorem Xek {l:List Xt} {y:Xt} (h:l.getLast? =some y):y∈l:=List.mem_of_getLast? h
theorem Xpx {l:List Xt} {x:Xt} {n m:Int} (hm:0≤m) (hl:∀z∈l,XB n z) (hx:XB m x) (hn:0≤n):∀z∈addX l x,XB (n+m) z:=by
 intro z hz
 cases hg:l.getLast? with
 |none=>
  have:l= []:=List.getLast?_eq_none_iff.1 hg
  subst this
  rw [Xl7] at hz
  simp at hz;subst hz
  exact hx.mono (by omega)
 |some y=>
  have hy:=hl y (Xek hg)
  by_cases hc:x.s≠0∧y.s=x.s∧y.o+y.n=x.o
  ·rw [Xl8 hg hc] at hz
   rcases List.mem_append.1 hz with hz|hz
   ·exact (hl z (List.dropLast_subset _ hz)).mono (by omega)
   ·simp at hz;subst hz
    unfold XB at*
    simp only
    omega
  ·rw [Xma hg hc] at hz
   rcases List.mem_append.1 hz with hz|hz
   ·exact (hl z hz).mono (by omega)
   ·simp at hz;subst hz
    exact hx.mono (by omega)
def AddR (I:IH) (B:Nat) (w:World) (v:Value) (l:List Xt) (e:Ending) (w':World):Prop:=
 ∃v',e= .returned v'∧OwnS tXt 109 I w' B v' l∧w.grownBy w' v.ownBlock∧ ∀g,v'.ownBlock=some g→v.ownBlock=some g∨w.heap.size≤g
theorem Xkq {s:Bytes} {k h:Nat} (hk:k<s.length) {N:Nat} (hr:firstG (s.drop k) k h=N):(if k+1=96∨(16≤k+1∧ckH h (s.getD k 0)<2048) then k+1 else firstG (s.drop (k+1)) (k+1) (ckH h (s.getD k 0)))=N:=by
 rw [List.drop_eq_getElem_cons hk,firstG] at hr
 rw [←hr];simp [List.getD,hk]
theorem Xum (h:Nat) (b:UInt8):ckH h b<65536:=Nat.mod_lt _ (by decide)
theorem Xtz (h:Nat) (b:UInt8):((2*(h:Int)+40503*((b.toNat:Int)+1))%65536)=((ckH h b:Nat):Int):=by unfold ckH;omega
def tSg:Ty Sg:=Ty.flat 2 (fun x=> [.int .i64 x.n,S x.d]) (fun _=>rfl) (fun _ u h=>by simp at h;rcases h with rfl|rfl<;>rfl)
theorem Xsl:(Tryz.prog.info? 168).map (fun i=>(i.zero,i.size,i.bytes))=some (some (.agg #[.int .i64 0,.string ⟨#[]⟩]),2,24):=by kernel_rfl
theorem Xhf:ElemOk Tryz.prog 165 168 tSg 24:=ElemOk.of Tryz.underlying165 Xsl rfl (by decide) rfl
theorem sgAt {I:IH} {v:Value} {l:List Sg} {w:World} (h:RdS tSg I v l) (hw:Ok I w) (i:Nat) (hi:i<l.length):∃x b off cap,l[i]=x∧v= .slice (some ⟨b,off,none⟩) l.length cap∧
 w.cell? ⟨b,off+i*2,none⟩=some (.int .i64 x.n)∧w.cell? ⟨b,off+i*2+1,none⟩=some (S x.d):=by
 obtain ⟨b,off,cap,cs,hv,hcs,hc⟩:=h.at_ hw hi
 have hcs':cs= [.int .i64 l[i].n,S l[i].d]:=hcs
 subst hcs'
 exact ⟨_,b,off,cap,rfl,hv,hc 0 _ rfl,hc 1 _ rfl⟩
def accP (s:Bytes) (f i:Nat):Bytes:=(s.drop f).take (i-f)
end Go.Proofs.YtmdfjnhfhidmhaaGreatDoor
