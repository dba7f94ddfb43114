/- Lemmas for the claim's theorem;conditions: as each says. -/
import Derived.Test.YtmdfjnhfhidmhaaGreatDoorQ17
import Derived.Maps.Own
import Derived.Maps.OwnOps
import Derived.Maps.OwnSet
import Derived.Maps.Views
import Derived.RangeFuncNested
import Derived.RangeFuncLeaves
import Derived.Shelf.Abstract
import Derived.OwnWalkIn
import Derived.TacticsInMore
import Derived.LoopNIn
import Derived.LoopIn
import Derived.Maps.OwnIn
set_option maxHeartbeats 0
set_option maxRecDepth 100000
set_option linter.all false
namespace Go.Proofs.YtmdfjnhfhidmhaaGreatDoor
open Go.RowKit
variable{B:Nat}{α:Type}{I:IH}{v:Value}{W:World}{T:Ty α}{l:List α}{w:World}{E:TypeId}{s:dX}{c:af}{n L C m:Nat}{W':World}{x:Xt}{D:DataW Unit}{k:Nat}{f:Nat×Nat}{y:Xt}{e:TypeId}{F:Fence}{P:Program}{a:Act}{Q:Exit→Act→World→Prop}{b:Nat}
def afY(s:af)(f i:Nat):af:=(s.drop f).take (i-f)
def pY:Ty Ck:=Ty.flat 4 (fun c=> [S c.d,.int .i64 c.x.s,.int .i64 c.x.o,.int .i64 c.x.n]) (fun _=>rfl) (fun _ u h=>by simp at h;rcases h with rfl|rfl|rfl|rfl<;>rfl)
theorem Xsq:(Tryz.prog.info? 156).map (fun i=>(i.zero,i.size,i.bytes))=some (some (.agg #[.string ⟨#[]⟩,.int .i64 0,.int .i64 0,.int .i64 0]),4,40):=by kernel_rfl
theorem Xsr:dx Tryz.prog 38 156 pY 40:=dx.of Tryz.underlying38 Xsq rfl (by decide) rfl
theorem Rw{l:List Ck}(h:aY pY I v l)(hw:Ok I w)(i:Nat)(hi:i<l.length):∃x b off cap,l[i]=x∧v= .slice (some ⟨b,off,none⟩) l.length cap∧
 w.cell? ⟨b,off+i*4,none⟩=some (S x.d)∧w.cell? ⟨b,off+i*4+1,none⟩=some (.int .i64 x.x.s)∧w.cell? ⟨b,off+i*4+2,none⟩=some (.int .i64 x.x.o)∧w.cell? ⟨b,off+i*4+3,none⟩=some (.int .i64 x.x.n):=by
 obtain⟨b,off,cap,cs,hv,fK,hc⟩:=h.at_ hw hi;have iw:cs=[S l[i].d,.int .i64 l[i].x.s,.int .i64 l[i].x.o,.int .i64 l[i].x.n]:=fK;subst iw;exact⟨_,b,off,cap,rfl,hv,hc 0 _ rfl,hc 1 _ rfl,hc 2 _ rfl,hc 3 _ rfl⟩
abbrev fI(s:dX)(vc:Value):Value:= .agg #[vc,.int .i64 s.aW,S s.str]
def oD(l:List Ck)(d:af):Xt×Bool:=match eP l d with|some x=>(x,true)|none=>(⟨0,0,0⟩,false)
theorem Xhv:(Tryz.prog.info? 156).map (fun i=>(i.zero,i.size,i.bytes))=some (some (.agg #[.string ⟨#[]⟩,.int .i64 0,.int .i64 0,.int .i64 0]),4,40):=by kernel_rfl
theorem Yz(I:IH)(v:Value)(l:List _)(hv:aY pY I v l)(w:World)(hw:Ok I w)(eU:l.length*40≤140737488355328):
 Calls Tryz.prog 105 #[v] w fun e w'=> ∃v',e= .returned v'∧aN pY 156 I w' w.heap.size v' l∧Below w.heap.size w w':=by
 obtain⟨i0,hi,nN,lM,oW⟩:=info_parts Xhv;have q22:∀(w:World) (a:Option Addr) (n c n' c':Nat),(binOp .eql 38 (.slice a n c) (.slice none n' c')).run Tryz.prog w= .ok (.bool a.isNone) w:=fun w a n c n' c'=>Lib.run_eql_slice_nil w _ _ a n c n' c' Tryz.underlying38;obtain⟨ao,cap,xs,rfl,dM,gV,hL,hx⟩:=hv.cells hw (by decide);have HL:=Qh hL;have Hx:=Qh hx;clear hL hx hv;cases ao with
 |none=>
  have h0:l.length=0:=by
   rcases Nat.eq_zero_or_pos l.length with h|h
   ·exact h
   ·obtain⟨b,off,arr,e,_⟩:=Hx.q h;cases e
  have:l=[]:=List.eq_nil_of_length_eq_zero h0;subst this;go_enter Tryz.func105,Tryz.ntmps105
  go_wp2;go_ret;exact⟨_,rfl,aN.nil _ _ _ _ _,Qb _ _⟩
 |some a=>
  go_enter Tryz.func105,Tryz.ntmps105
  go_wp2_with (at_builtin;refine wpList_append_own _ rfl _ _ 38 rfl w.heap.size 156 i0 _ 4 40 Tryz.underlying38 hi nN lM oW rfl (by decide) _ _ _ rfl (World.ownsRow_made w #[] 0 (Qn _) (Nat.zero_le _) (by simp)) a l.length cap xs rfl ?qc1 ?qc2 ?qc3 ?qc4 ?qc5 ?qc6 ?_)
  case qc1=>exact HL.q.1
  case qc2=>
   intro j u hj;have hl:0<l.length:=by
    have:=(List.getElem?_eq_some_iff.1 hj).1;rw[HL.q.1]at this;rcases Nat.eq_zero_or_pos l.length with h|h
    ·rw[h]at this;omega
    ·exact h
   obtain⟨b,off,arr,e,_,hb,hc⟩:=Hx.q hl;cases e;rw[Addr.add_lit];rw[World.cell?_alloc_lt _ _ _ hb];exact hc j u hj
  case qc3=>exact HL.q.oneCell
  case qc4=>rw[Nat.zero_add];omega
  case qc5=>rw[Nat.zero_add];exact eU
  case qc6=>simp
  intro v' w1 bM jf _;go_wp2;go_ret;refine⟨v',rfl,⟨xs,(by have hq:=bM;first|exact hq|(simp at hq;exact hq)),HL.q⟩,?_⟩;exact((Qb _ w).alloc (Qn _) _).grown jf (by simp) (by intro k hk;simp[Value.ownBlock]at hk;omega)
theorem EZ:Go.Maps.Keyed Tryz.prog 9:=Go.Maps.string_keyed Tryz.underlying9
theorem E5(p:af)(hp:p.length≤4294967280):keyOf Tryz.prog 9 (S p)=some (.string p):=by
 have h:=Go.WideMaps.keyOf_string_mk (P:=Tryz.prog) Tryz.underlying9 (s:=⟨p.toArray⟩) (by rw[ByteArray.size_mk',List.size_toArray];unfold maxLen;omega);simpa using h
def sI(x:Xt):DataW Unit:= .agg [.lit (.int .i64 x.s),.lit (.int .i64 x.o),.lit (.int .i64 x.n)]
def ky(v:Value):Option (DataW Unit×List MemPlace):=
 match v with
 | .agg a=>match a.toList with
   | [.int .i64 s,.int .i64 o,.int .i64 n]=>some (sI ⟨s,o,n⟩,[])
   |_=>none
 |_=>none
theorem Rx(x:Xt):ky (EX x)=some (sI x,[]):=rfl
theorem Xmt{z:DataW Unit×List MemPlace}(h:ky v=some z):∃x,v=EX x∧z=(sI x,[]):=by
 unfold ky at h;split at h
 ·rename_i a;split at h
  ·rename_i s o n e;refine⟨⟨s,o,n⟩,?_,(Option.some.inj h).symm⟩;rw[←Array.toArray_toList (xs:=a),e]
  ·cases h
 ·cases h
theorem YA(h:sI x=sI y):x=y:=by
 unfold sI at h;cases x;cases y;simp at h;obtain⟨rfl,rfl,rfl⟩:=h;rfl
def nY(D:DataW Unit)(l:List Ck):Prop:=∀p:af,(eP l p=none→Go.Maps.has D (.string p)=false)∧ ∀x,eP l p=some x→Go.Maps.has D (.string p)=true∧ ∀z,D.atKey (.string p) z=sI x
theorem Xp3:nY (.map []) []:=fun _=>⟨fun _=>rfl,fun _ h=>(by cases h)⟩
theorem YB(l:List Ck)(c:Ck)(p:af):eP (l++[c]) p=match eP l p with|some x=>some x|none=>if c.d=p then some c.x else none:=by
 induction l with
 |nil=>rfl
 |cons a l ih=>
  rw[List.cons_append,eP,eP];by_cases h:a.d=p
  ·rw[if_pos h,if_pos h]
  ·rw[if_neg h,if_neg h,ih]
theorem Xp2{l:List Ck}(h:nY D l){c:Ck}(hc:eP l c.d=some y):nY D (l++[c]):=fun p=>by
 have hp:=h p;rw[YB];cases hf:eP l p with
 |some x=>rw[hf]at hp;exact hp
 |none=>
  rw[hf]at hp;have aZ:c.d≠p:=fun e=>by rw[e,hf]at hc;cases hc
  dsimp only;rw[if_neg aZ];exact hp
theorem YC{l:List Ck}(h:nY D l)(hD:Go.Maps.IsMap D){c:Ck}(hc:eP l c.d=none):nY (D.put (.string c.d) (sI c.x)) (l++[c]):=fun p=>by
 have hp:=h p;rw[YB];by_cases aZ:c.d=p
 ·subst aZ;rw[hc];dsimp only;rw[if_pos rfl];refine⟨fun e=>(by cases e),fun x hx=> ?_⟩;cases hx;exact⟨Go.Maps.has_put_same hD (show WideAt.IsKeyLit (.string c.d)from trivial) _,fun z=>Go.Maps.atKey_put_same hD (show WideAt.IsKeyLit (.string c.d)from trivial) _ z⟩
 ·have hk:(Lit.string p)≠ .string c.d:=by intro e;cases e;exact aZ rfl
  rw[Go.Maps.has_put_other hk];cases hf:eP l p with
  |some x=>
   rw[hf]at hp;refine⟨fun e=>(by cases e),fun y hy=>⟨(hp.2 y hy).1,fun z=> ?_⟩⟩;rw[Go.Maps.atKey_put_other hk];exact(hp.2 y hy).2 z
  |none=>
   rw[hf]at hp;dsimp only;rw[if_neg aZ];exact⟨fun _=>hp.1 rfl,fun x hx=>(by cases hx)⟩
theorem Xtn(w:World):(zeroValue 109).run Tryz.prog w= .ok (EX ⟨0,0,0⟩) w:=by kernel_rfl
theorem YD{l:List Ck}(h:W.ownsMap Tryz.prog 9 ky B n D)(hM:nY D l){p:af}(hp:p.length≤4294967280):
 (Instr.lookup 195 (.map (some B)) (S p) true).run Tryz.prog W= .ok (.tuple #[EX (oD l p).1,.bool (oD l p).2]) W:=by
 obtain⟨v,ps,h1,h2⟩:=h.look_ok EZ Tryz.underlying195 (Xtn W) (Rx ⟨0,0,0⟩) (E5 p hp);obtain⟨x,rfl,hx⟩:=Xmt h2;have hx:=(Prod.mk.inj hx).1;rw[h1];unfold oD;cases hf:eP l p with
 |none=>
  have k:=(hM p).1 hf;rw[Go.Maps.atKey_of_not_has k]at hx;rw[k,←YA hx]
 |some y=>
  obtain⟨k1,k2⟩:=(hM p).2 y hf;rw[k2]at hx;rw[k1,←YA hx]
theorem Xqm(I:IH)(s:dX)(vc:Value)(hv:aY pY I vc s.aM)(hn:s.aM.length≤10000000)(hd:∀c∈s.aM,c.d.length≤32)(w:World)(hw:Ok I w):
 Calls Tryz.prog 148 #[fI s vc] w fun e w'=> ∃B D,e= .returned (.map (some B))∧w.heap.size≤B∧w'.ownsMap Tryz.prog 9 ky B s.aM.length D∧nY D s.aM∧Below w.heap.size w w':=by
 have Vd:= @run_makeMap Tryz.prog;obtain⟨ao,cap,rfl,_,_,_⟩:=id hv;have Hv:=Qh hv;have Hd:=Qh hd;have b0:Below w.heap.size w (w.alloc (.cells #[.slice ao s.aM.length cap,.int .i64 s.aW,S s.str] 40)):=(Qb _ _).alloc (Qn _) _;have EK:=Qh (show((w.alloc (.cells #[.slice ao s.aM.length cap,.int .i64 s.aW,S s.str] 40)).alloc (.map #[] 0)).ownsMap Tryz.prog 9 ky (w.heap.size+1) 0 (.map []) by
  have:=World.ownsMap_made (H:=Unit) (w.alloc (.cells #[.slice ao s.aM.length cap,.int .i64 s.aW,S s.str] 40)) Tryz.prog 9 ky;rwa[World.size_alloc]at this)
 have Bl:Below w.heap.size w ((w.alloc (.cells #[.slice ao s.aM.length cap,.int .i64 s.aW,S s.str] 40)).alloc (.map #[] 0)):=b0.alloc b0.size _;have kP:Ok I ((w.alloc (.cells #[.slice ao s.aM.length cap,.int .i64 s.aW,S s.str] 40)).alloc (.map #[] 0)):=(hw.alloc _).alloc _;have hIB:I (w.heap.size+1)=none:=hw.fresh (by omega);obtain⟨B,hB⟩:∃B,w.heap.size+1=B:=⟨_,rfl⟩;clear hv hd b0;go_enter Tryz.func148,Tryz.ntmps148
 go_wp2;rw[hB]at EK hIB;generalize hW:((w.alloc (.cells #[.slice ao s.aM.length cap,.int .i64 s.aW,S s.str] 40)).alloc (.map #[] 0))=W0 at EK Bl kP ⊢;clear hW Vd;go_loopw [12] (fun s12 wr=> ∃(k:Nat) (D:DataW Unit),k≤s.aM.length∧s12= .int .i64 k∧wr.ownsMap Tryz.prog 9 ky B k D∧nY D (s.aM.take k)∧Ok I wr∧Below w.heap.size w wr) (fun i _=>s.aM.length-(intOf i).toNat)
 case atStart=>exact⟨0,_,Nat.zero_le _,rfl,EK.q,Xp3,kP,Bl⟩
 case round=>
  clear EK kP Bl;obtain⟨k,D,hk,rfl,bM,uR,iU,hb⟩:=hrel;have nQ:=Qh bM;have BQ:=Qh uR;clear bM uR;by_cases hlt:k<s.aM.length
  ·obtain⟨c,b,off,cap',tV,dC,x0,x1,x2,x3⟩:=Rw Hv.q iU k hlt;cases dC;have hcd:=Hd.q c (by rw[←tV];exact List.getElem_mem hlt);have tC:=Qh (show s.aM.take (k+1)=s.aM.take k++[c] by rw[List.take_succ_eq_append_getElem hlt,tV]);have o1:=nQ.q.alloc (.cells #[S c.d,.int .i64 c.x.s,.int .i64 c.x.o,.int .i64 c.x.n] 156);have MG:=YD o1 BQ.q (p:=c.d) (by omega);have b1:=hb.alloc hb.size (.cells #[S c.d,.int .i64 c.x.s,.int .i64 c.x.o,.int .i64 c.x.n] 156);cases hf:eP (s.aM.take k) c.d with
   |some y=>
    have jg:oD (s.aM.take k) c.d=(y,true):=by unfold oD;rw[hf]
    rw[jg]at MG;have Hn:=Qh (show nY D (s.aM.take (k+1)) by rw[tC.q];exact Xp2 BQ.q hf);clear hf jg tV o1 tC;go_wp2;go_roundw;case rel=>exact⟨k+1,D,by omega,by go_num,((nQ.q.alloc _).alloc _).mono (by omega),Hn.q,(iU.alloc _).alloc _,b1.alloc b1.size _⟩
    case measure=>simp[intOf];omega
   |none=>
    have jg:oD (s.aM.take k) c.d=(⟨0,0,0⟩,false):=by unfold oD;rw[hf]
    rw[jg]at MG;have o2:=o1.alloc (.cells #[.int .i64 0,.int .i64 0,.int .i64 0] 109);have Hn:=Qh (show nY (D.put (.string c.d) (sI c.x)) (s.aM.take (k+1)) by rw[tC.q];exact YC BQ.q nQ.q.isMap hf);have BR:=Qh (E5 c.d (by omega));have bC:=(iU.alloc (.cells #[S c.d,.int .i64 c.x.s,.int .i64 c.x.o,.int .i64 c.x.n] 156)).alloc (.cells #[.int .i64 0,.int .i64 0,.int .i64 0] 109);have b2:=b1.alloc b1.size (.cells #[.int .i64 0,.int .i64 0,.int .i64 0] 109);have Ho2:=Qh o2;clear hf jg tV o1 o2 tC
    go_wp2_with (first
     |(at_mapUpdate;refine wpList_mapUpdate_own _ rfl _ _ _ 195 rfl 9 109 EZ Tryz.underlying195 ky B k D rfl Ho2.q (by unfold maxLen;omega) _ _ _ rfl rfl BR.q _ [] (Rx c.x) ?_)
     |go_in)
    intro w3 I9 kS;go_wp2;go_roundw;case rel=>exact⟨k+1,_,by omega,by go_num,I9,Hn.q,bC.grown kS (fun g e=>by cases e;exact hIB),b2.grown kS b2.size (fun g e=>by cases e;omega)⟩
    case measure=>simp[intOf];omega
  ·have Hn:=Qh (show nY D s.aM by have:=BQ.q;rwa[List.take_of_length_le (by omega)]at this);have hks:k=s.aM.length:=by omega
   subst hks;go_wp2;go_ret;exact⟨B,D,rfl,by omega,nQ.q,Hn.q,hb⟩
theorem E8{a b c x y z:Value}{t:TypeId}(h:W.heap[n]?=some (.cells #[a,b,c] t (0,0))):(((W.setCell ⟨n,0,none⟩ x).setCell ⟨n,1,none⟩ y).setCell ⟨n,2,none⟩ z).heap[n]?=some (.cells #[x,y,z] t (0,0)):=by
 have:=heap_setCell_same _ n 2 _ _ z (heap_setCell_same _ n 1 _ _ y (heap_setCell_same W n 0 _ _ x h));simpa using this
abbrev af8(s:dX)(vc:Value):Array Value:=#[vc,.int .i64 s.aW,S s.str]
structure af9 (n:Nat) (J:IH) (W:World) (s:dX) (l:List Xt) (vc vo:Value):Prop where
 row:W.heap[n]?=some (.cells #[vc,.int .i64 s.aW,S s.str] 40 (0,0))
 res:W.heap[n+1]?=some (.cells #[.slice none 0 0,.int .i64 0,S []] 40 (0,0))
 aM:aY pY J vc s.aM
 own:aN kQ 109 J W (n+2) vo l
 apart:∀g,vo.ownBlock=some g→J g=none
 ok:Ok J W
 free:J n=none
 aga:J (n+1)=none
section
variable {n:Nat} {I J J':IH} {W W':World} {s s':dX} {l l':List Xt} {vc Ib vo vo':Value}
end
theorem AQ{w':World}{a:Addr}{x:Value}{row:Option Nat}(hg:W.grownBy w' row)(aZ:row≠some a.block)(h:W.cell? a=some x)(hf:W.frozen? a=false):w'.frozen? a=false:=
 (World.frozen?_of_block (hg.block _ (block_lt_of_cell h) (fun e=>aZ e.symm))).trans hf
theorem aN.wO(h:aN T E I w B v l)(hw:Ok I w)(hI:∀g,v.ownBlock=some g→I g=none):∃I',(∀b c,I b=some c→I' b=some c)∧Ext B I I'∧Ok I' w∧aY T I' v l∧ ∀b,v.ownBlock≠some b→I' b=I b:=by
 obtain⟨xs,⟨h1,Bf⟩,h2⟩:=h;rcases Bf with⟨rfl,h0⟩|⟨g,cap,cur,rfl,hb,hg,Bg,gV,fK,ht⟩
 ·refine⟨I,fun _ _ h=>h,Ext.refl _ _,hw,?_,fun _ _=>rfl⟩;have:l=[]:=List.eq_nil_of_length_eq_zero h0;subst this;exact aY.nil T I
 ·have nH:∀b c,I b=some c→(I.add g cur) b=some c:=fun b c hc=>by
   unfold IH.add;by_cases e:b=g
   ·subst e;rw[hI _ rfl]at hc;cases hc
   ·rw[if_neg e];exact hc
  refine⟨I.add g cur,nH,Ext.add hb I cur,hw.add hg,⟨_,cap,rfl,Bg,gV,fun _=>⟨g,0,cur,rfl,by simp[IH.add],fun i hi=> ?_⟩⟩,fun b O1=> ?_⟩
  ·obtain⟨cs,k1,k2⟩:=h2.2 i hi;refine⟨cs,T.mono nH k1,fun j u hu=> ?_⟩;have hx:=k2 j u hu;rw[←ht,List.getElem?_take]at hx;split at hx
   ·rw[Nat.zero_add,←Array.getElem?_toList];exact hx
   ·cases hx
  ·have:b≠g:=fun e=>O1 (by simp[Value.ownBlock,e]);simp[IH.add,this]
theorem YE:∀{l:List af} {c:af},c∈l→c.length≤l.flatten.length
 |x::l,c,h=>by
  rw[List.flatten_cons,List.length_append];rcases List.mem_cons.1 h with rfl|h
  ·omega
  ·have:=YE h;omega
theorem Xp0{x:α}(h:aN T E I w B v (l++[x])):∃g n cap,v= .slice (some ⟨g,0,none⟩) n cap:=by
 obtain⟨xs,h1,_⟩:=h;rcases h1.2 with⟨_,h0⟩|⟨g,cap,cur,h,_⟩
 ·simp at h0
 ·exact⟨_,_,_,h⟩
structure xQ (L C:Nat) (m:Nat) (s:dX) (l:List Xt):Prop where
 s0:1≤s.aW
 s1:s.aW≤255
 str:s.str.length≤L+65536*m
 aM:s.aM.length≤C+m
 cx:∀c∈s.aM,XB 65536 c.x
 len:l.length≤m
 xs:∀z∈l,XB (65536*m) z
theorem xQ.add{l:List Xt}(h:xQ L C m s l)(hx:XB 65536 x):xQ L C (m+1) s (iE l x):=
 ⟨h.s0,h.s1,by have:=h.str;omega,by have:=h.aM;omega,h.cx,by have:=(Yr l x).1;have:=h.len;omega,fun z hz=>(Yy (by decide) h.xs hx (by omega) z hz).mono (by omega)⟩
theorem Ry:∀{l:List Ck} {d:af} {x:Xt},eP l d=some x→ ∃c∈l,c.x=x
 |c::l,d,x,h=>by
  rw[eP]at h;split at h
  ·exact⟨c,List.mem_cons_self ..,Option.some.inj h⟩
  ·obtain⟨c',h1,h2⟩:=Ry h;exact⟨c',List.mem_cons_of_mem _ h1,h2⟩
theorem Oc{l:List Xt}(h:xQ L C m s l)(hL:L≤4294967296)(hm:m≤65536)(hc:c.length≤65536):XB 65536 (jO s c):=by
 have:=h.s0;have:=h.s1;have:=h.str;unfold XB jO;simp only;omega
theorem xQ.grow{l:List Xt}(h:xQ L C m s l)(hL:L≤4294967296)(hm:m≤65536)(hc:c.length≤65536):
 xQ L C (m+1) ⟨s.aM++[⟨dA c,jO s c⟩],s.aW,s.str++c⟩ (iE l (jO s c)):=by
 have ha:=h.add (Oc h hL hm hc);refine⟨h.s0,h.s1,?_,?_,fun k hk=> ?_,ha.len,ha.xs⟩
 ·have:=h.str;simp;omega
 ·have:=h.aM;simp;omega
 ·rcases List.mem_append.1 hk with hk|hk
  ·exact h.cx k hk
  ·simp at hk;subst hk;exact Oc h hL hm hc
theorem xQ.grow'{l:List Xt}(h:xQ L C m s l)(hL:L≤4294967296)(hm:m≤65536){dg:af}(hc:c.length≤65536):
 xQ L C (m+1) ⟨s.aM++[⟨dg,jO s c⟩],s.aW,s.str++c⟩ (iE l (jO s c)):=by
 have ha:=h.grow hL hm hc;refine⟨h.s0,h.s1,ha.str,by have:=ha.aM;simpa using this,fun k hk=> ?_,ha.len,ha.xs⟩;rcases List.mem_append.1 hk with hk|hk
 ·exact h.cx k hk
 ·simp at hk;subst hk;exact Oc h hL hm hc
theorem YF{l:List Xt}(h:eP s.aM (dA c)=some x):nX (s,l) c=(s,iE l x):=by
 unfold nX BP;simp only[h]
theorem YG{l:List Xt}(h:eP s.aM (dA c)=none):nX (s,l) c=(⟨s.aM++[⟨dA c,jO s c⟩],s.aW,s.str++c⟩,iE l (jO s c)):=by
 unfold nX BP;simp only[h]
theorem YH{β:Type}{f:β→α→β}{p R:β}(hk:k<l.length){x:α}(hx:l[k]=x)(h:(l.drop k).foldl f p=R):(l.drop (k+1)).foldl f (f p x)=R:=by
 rw[List.drop_eq_getElem_cons hk,hx,List.foldl_cons]at h;exact h
structure lq (I:IH) (w0:World) (J:IH) (W:World):Prop where
 ok:Ok J W
 keep:∀b c,I b=some c→J b=some c
 eD:Below w0.heap.size w0 W
section
variable {I J J':IH} {w0 W W':World}
theorem lq.start(h:Ok I w0):lq I w0 I w0:=⟨h,fun _ _ h=>h,Qb _ _⟩
theorem lq.quiet(h:lq I w0 J W)(hb:Below W.heap.size W W'):lq I w0 J W':=⟨h.ok.below (Qn _) hb,h.keep,h.eD.trans (hb.mono h.eD.size)⟩
theorem lq.past(h:lq I w0 J W)(o:Obj):lq I w0 J (W.alloc o):=h.quiet ((Qb _ _).alloc (Qn _) o)
theorem lq.ext(h:lq I w0 J W)(hb:Below W.heap.size W W')(hx:Ext W.heap.size J J')(iU:Ok J' W'):lq I w0 J' W':=
 ⟨iU,fun b c hc=>hx.keep h.ok (Qn _) b c (h.keep b c hc),h.eD.trans (hb.mono h.eD.size)⟩
theorem lq.size(h:lq I w0 J W):w0.heap.size≤W.heap.size:=h.eD.size
end
theorem YI{c:Array Value}{row:Option Nat}(hk:W.heap[k]?=some (.cells c e f))(hr:∀r,row=some r→ ∃o:Obj,W.heap[r]?=some o∧o.isCells=false):row≠some k:=by
 intro e';obtain⟨o,ho,hc⟩:=hr k e';rw[hk]at ho;cases ho;cases hc
theorem Below.turn{row:Option Nat}(h:Below n w W)(hn:n≤w.heap.size)(hB:n≤B)(hg:W.grownBy W' row)(hr:∀r,row=some r→B≤r∧ ∃o:Obj,W.heap[r]?=some o∧o.isCells=false):Below n w W':=
 h.grown hg (Nat.le_trans hn h.size) (fun k e=>Nat.le_trans hB (hr k e).1)
theorem KeepsFrom.uH(W:World)(p:Addr)(u:Value):KeepsFrom B W (W.setCell p u):=(KeepsOthers.setCell W p u).from B
theorem YJ{c:Array Value}{row:Option Nat}(h:W.heap[k]?=some (.cells c e f))(hg:W.grownBy W' row)(hr:∀r,row=some r→ ∃o:Obj,W.heap[r]?=some o∧o.isCells=false):W'.heap[k]?=some (.cells c e f):=
 (hg.block k (Qg h) (fun e'=>YI h hr e'.symm)).trans h
theorem Kz{nF:Nat}{ts te:TypeId}{bytes:Nat}(hE:dx P ts te T bytes){w0:World}{ops:Array Oper}{rest:List Oper}{o:Oper}(yf:o.guard=none)(s x:Operand)
 (ho:o.op= .call {callee:= .builtin .append,args:=#[s,x],argTypes:=#[ts,ts]}) (B:Nat) (v:Value) (l:List α) (hs:a.eval s=v) (bM:aN T te I w0 B v l)
 (y:α) (cs:List Value) (tb:TypeId) (hx:a.eval x= .slice (some ⟨w0.heap.size,0,none⟩) 1 1) (hy:T.rd I cs y) (eU:(l.length+1)*bytes≤140737488355328) (hl:l.length+1≤9223372036854775807) (hB:B≤w0.heap.size)
 (h:∀v' w',aN T te I w' B v' (l++[y])→w0.grownBy w' v.ownBlock→(∀g,v'.ownBlock=some g→v.ownBlock=some g∨w0.heap.size≤g)→wpListIn F nF P ops Q rest (a.put o.dst v') w'):wpListIn F nF P ops Q (o::rest) a (w0.alloc (.cells cs.toArray tb)):=by
 obtain⟨i,z,h1,h2,h3,h4,h5,h6,h7⟩:=hE;obtain⟨xs,k1,k2⟩:=bM
 refine wpListIn_append_own_at (w0.alloc (.cells cs.toArray tb)) yf s x ts ho B te i z T.size bytes h1 h2 h3 h4 h5 h6 h7 v l.length xs hs (k1.alloc _) ⟨w0.heap.size,0,none⟩ 1 1 cs hx (by rw[T.len hy,Nat.one_mul])
  (fun j u hu=>by rw[Addr.add_lit,Nat.zero_add,World.cell?_alloc_new];simpa using hu) (T.one hy) (by unfold maxLen;omega) eU (by simp;omega) (fun v' w' r1 r2 _ r4=>h v' w' ⟨xs++cs,by rw[List.length_append];exact r1,k2.append (bB.one hy)⟩ ?_ ?_)
 ·exact⟨r2.os,r2.tape,r2.output,by have:=r2.size;simp at this;omega,fun k hk aZ=>(r2.block k (by simp;omega) aZ).trans (Below.heap_alloc _ _ _ hk)⟩
 ·intro g hg;rcases r4 with r4|r4
  ·exact .inl (r4▸hg)
  ·rw[r4]at hg;simp at hg;exact .inr (by omega)
theorem oF(h:aN T E I w B v l){g:Nat}(hg:v.ownBlock=some g):B≤g∧ ∃cur,w.heap[g]?=some (.cells cur E (0,0)):=by
 obtain⟨xs,⟨_,h1⟩,_⟩:=h;rcases h1 with⟨h2,_⟩|⟨g',cap,cur,rfl,hB,nS,_⟩
 ·rw[h2]at hg;cases hg
 ·have e:g'=g:=by simpa[Value.ownBlock]using hg
  subst e;exact⟨hB,cur,nS⟩
theorem vN{E':TypeId}{c:Array Value}(h:aN T E I w B v l)(hb:w.heap[b]?=some (.cells c E' f))(hT:E'≠E):v.ownBlock≠some b:=fun e=>by
 obtain⟨_,cur,hc⟩:=oF h e;rw[hb]at hc;cases hc;exact hT rfl
theorem KeepsFrom.own{B':Nat}(h:aN T E I W B v l)(hg:W.grownBy W' v.ownBlock):KeepsFrom B' W W':=
 ⟨hg.size,fun k o _ hk ho=>(hg.block k (Qg hk) (fun e=>by
   obtain⟨_,cur,hc⟩:=oF h e.symm;rw[hk]at hc;cases hc;cases ho)).trans hk⟩
theorem aN.turn{row:Option Nat}(h:aN T E I W B v l)(hg:W.grownBy W' row)(hr:∀r,row=some r→ ∃o:Obj,W.heap[r]?=some o∧o.isCells=false):aN T E I W' B v l:=by
 refine h.kept hg ?_;cases hv:v.ownBlock with
 |none=>exact .inl rfl
 |some g=>
  obtain⟨_,cur,hc⟩:=oF h hv;exact .inr fun e=>YI hc hr e.symm
theorem zI(h:aN T E I w B v l):∃ao n cap,v= .slice ao n cap:=by
 obtain⟨xs,h1,_⟩:=h;rcases h1.2 with⟨h,_⟩|⟨g,cap,cur,h,_⟩
 ·exact⟨_,_,_,h⟩
 ·exact⟨_,_,_,h⟩
theorem aN.stored(h:aN T E I W B v l)(hv:v.ownBlock≠some b)(j:Nat)(u:Value):aN T E I (W.setCell ⟨b,j,none⟩ u) B v l:=
 h.kept (row:=some b) ⟨rfl,rfl,rfl,by simp,fun k _ hk=>heap_setCell_other W ⟨b,j,none⟩ k u (fun e=>hk (by simp[e]))⟩ (.inr hv)
def Dz{α:Type}(F:Fence)(n:Nat)(P:Program)(g:Nat)(lb:Array Value)(encs:α→Array Value)(Bx:Nat)(Kp:World→World→Prop)(S:List α→Prop)(N:Nat)(w:World):Prop:=
 ∀(l:Nat) (J:List α→World→Prop) (W:World),Below w.heap.size w W→AbidesFrom W.heap.size J→(∀pre W' u,J pre W'→J pre (W'.setCell ⟨Bx,0,none⟩ u))→
  (∀pre x W1,J pre W1→pre.length<N→YieldAt F (n-1) P l (encs x) W1 fun e W'=>e= .returned (.bool true)∧J (pre++[x]) W'∧Kp W1 W')→
  J [] W→CallsIn F n P g (#[.func (.yield l) #[] #[]]++lb) W fun e W'=>(∃v,e= .returned v)∧ ∃xs,S xs∧J xs W'
theorem Xmv{g:Operand}{ps:Array Tmp}{assign body:Code}
 (hro:F.round=none) (h1:1≤n) {gf:Nat} {lb:Array Value} (hg:a.eval g= .func (.func gf) #[] lb) (hFg:F.fn gf) (eg:∀args w,(callFunc gf args).run P w= .ok (.enter gf args) w)
 {encs:α→Array Value} {Bx:Nat} {Kp:World→World→Prop} {S:List α→Prop} {N:Nat} (Ve:Dz F (n-1) P gf lb encs Bx Kp S N w) (hBx:Bx<w.heap.size)
 (hKt:∀{A B C:World},Kp A B→Kp B C→Kp A C) (hKb:∀(W:World) (l:Nat) (o':Obj),w.heap.size≤l→Kp W (W.putObj l o')) (hps:∀x,(encs x).size=ps.size)
 (I:List α→World→Prop) (hI:OwnFrom w.heap.size I) (hIw:∀pre W u,I pre W→I pre (W.setCell ⟨Bx,0,none⟩ u)) (h0:I [] w) (a₁:α→Act)
 (CQ:∀(l:Nat) (x:α) (W:World) (K:Act→World→Prop),K (a₁ x) W→
   assign.wpIn (F.inRound l) (n-1-1) P (Exit.then K (fun _ _ _=>False)) {tmps:=(ps.zip (encs x)).foldl (fun t (p,v)=>t.setIfInBounds p v) a.tmps,defers:=[]} W)
 (MH:∀(l:Nat) (pre:List α) (x:α) (W:World),I pre W→pre.length<N→body.wpIn (F.inRound l) (n-1-1) P (fun e _ W'=>e= .normal∧KeepsFrom w.heap.size W W'∧Kp W W'∧I (pre++[x]) W') (a₁ x) W)
 (MI:∀(D:Nat) (xs:List α) (W:World),w.heap.size≤D→S xs→I xs W→W.heap[D]?=some (.deferred (some []))→Q .normal {a with defers:={target:= .collected D,args:=#[]}::a.defers} W):
 (Code.rangeFunc g ps assign body).wpIn F n P Q a w:=by
 refine wpIn_rangeFunc ?_;intro fn CR;rw[hro];obtain⟨rec,qA⟩:∃rec:LoopState→Loop,rec=fun st=> {state:=st,pending:=none,fn,tmps:=a.tmps,params:=ps,assign,body,defers:=w.heap.size}:=⟨_,rfl⟩;obtain⟨L,hL⟩:∃L,w.heap.size+1=L:=⟨_,rfl⟩;obtain⟨W1,lZ⟩:∃W1,(w.alloc (.deferred (some []))).alloc (.loop (rec .ready))=W1:=⟨_,rfl⟩;have hL1:W1.heap[L]?=some (.loop (rec .ready)):=by
  have:=World.alloc_heap_new (w.alloc (.deferred (some []))) (.loop (rec .ready));rw[World.size_alloc,hL,lZ]at this;exact this
 have Bj:W1.heap[w.heap.size]?=some (.deferred (some [])):=by
  rw[←lZ];exact(Below.heap_alloc _ _ _ (by simp)).trans (World.alloc_heap_new w _)
 have jA:I [] W1:=by rw[←lZ];exact hI.alloc _ (hI.alloc _ h0)
 have aG:Below w.heap.size w W1:=by rw[←lZ];exact((Qb _ w).alloc (Qn _) _).alloc (by simp) _
 have lM:W1.heap.size=w.heap.size+2:=by rw[←lZ];simp
 refine⟨L,[{target:= .collected w.heap.size,args:=#[]}],W1,{target:= .fn (.func gf) lb,args:=#[.func (.yield L) #[] #[]]},W1,gf,#[.func (.yield L) #[] #[]]++lb,W1,?_,?_,?_,?_,fun _=>h1,?_⟩
 ·rw[←lZ,←hL,qA];exact run_enterLoop_outer _ _ _ _ _
 ·simp only[resolve,hg];simp[go_sem]
 ·intro f' hf';simp[Target.leads]at hf';subst hf';exact hFg
 ·simp[invoke,go_sem,eg]
 ·have aZ:Bx≠L:=by omega
  have Gy:Bx≠w.heap.size:=by omega
  refine(Ve L (fun pre W=>I pre W∧W.heap[L]?=some (.loop (rec .ready))∧W.heap[w.heap.size]?=some (.deferred (some []))) W1 aG ?_ ?_ ?_ ⟨jA,hL1,Bj⟩).mono ?_
  ·intro s A B row ⟨k1,k2,k3⟩ Gt hr;have hr':∀r,row=some r→ ∃o:Obj,A.heap[r]?=some o∧o.isWalk=true:=fun r e=>(hr r e).2;exact⟨hI s A B row k1 Gt fun r e=>by obtain⟨q1,o,q2,q3⟩:=hr r e;exact⟨by omega,o,q2,Obj.not_cells_of_walk q3⟩,(grownBy_keeps Gt hr' k2 rfl).trans k2,(grownBy_keeps Gt hr' k3 rfl).trans k3⟩
  ·intro pre A u ⟨k1,k2,k3⟩;exact⟨hIw pre A u k1,(heap_setCell_other A ⟨Bx,0,none⟩ L u aZ.symm).trans k2,(heap_setCell_other A ⟨Bx,0,none⟩ w.heap.size u Gy.symm).trans k3⟩
  ·rintro pre x W ⟨hi,hl,hk⟩ hlen;have hlt:L<W.heap.size:=(Qg hl);have hy:=run_yield (P:=P) (args:=encs x) hl (by rw[qA];exact hps x);rw[qA]at hy;have hb:=run_beginRound (P:=P) hl (by rw[qA]);obtain⟨W2,mH⟩:∃W2,W.putObj L (.loop {rec .ready with state:= .busy})=W2:=⟨_,rfl⟩;rw[mH]at hb;have Ee:W2.heap[L]?=some (.loop {rec .ready with state:= .busy}):=by rw[←mH];exact World.putObj_heap_same hlt
   have yj:W2.heap[w.heap.size]?=some (.deferred (some [])):=by rw[←mH];exact(World.putObj_heap_other (by omega)).trans hk
   have hp2:Kp W W2:=by rw[←mH];exact hKb _ _ _ (by omega)
   have Em:I pre W2:=by rw[←mH];exact hI.putObj _ hi (by omega) hl rfl
   refine⟨fn,_,assign,body,hy,roundIn_of_wpIn CR (CQ _ x W _ ⟨_,hb,wpIn_mono (MH L pre x W2 Em hlen) ?_⟩)⟩;rintro e a3 W3 ⟨rfl,qx,hp3,U3⟩;have MF:=qx.same _ _ (by omega) Ee rfl;have UI:=qx.same _ _ (Qn _) yj rfl;have he:=run_endRound (P:=P) none MF;refine⟨_,_,he,rfl,⟨hI.putObj _ U3 (by omega) MF rfl,?_,(World.putObj_heap_other (by omega)).trans UI⟩,hKt (hKt hp2 hp3) (hKb _ _ _ (by omega))⟩;have:=World.putObj_heap_same (o:=Obj.loop {rec .ready with state:= .ready,pending:=none}) (Qg MF);rw[qA]at this ⊢;exact this
  ·rintro e W2 ⟨⟨v,rfl⟩,xs,hS,hi,hl,hk⟩;have he:=run_endLoop (P:=P) hl (by rw[qA];simp);rw[qA]at he;exact⟨none,_,he,MI _ xs _ (Qn _) hS (hI.putObj _ hi (by omega) hl rfl) ((World.putObj_heap_other (by omega)).trans hk)⟩
