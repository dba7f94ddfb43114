/- Lemmas for the claim's theorem;conditions: as each says. -/
import Derived.Test.YtmdfjnhfhidmhaaGreatDoorQ19
set_option maxHeartbeats 0
set_option maxRecDepth 100000
set_option linter.all false
namespace Go.Proofs.YtmdfjnhfhidmhaaGreatDoor
open Go.RowKit Go.Shelf
variable{b:Nat}{D:DataW Unit}{s:bu}
attribute [local go_sem] Oper.semAt_some
theorem Xph(s:af)(hs:s.length≤4294967280)(w:World):
 Calls Tryz.prog 236 #[S s] w fun e w'=>e= .returned (.int .i64 (bV s:Nat))∧Below w.heap.size w w':=by
 obtain⟨N,hN⟩:∃N,bV s=N:=⟨_,rfl⟩;have HN:=Qh (show 0+bV (s.drop 0)=N by rw[Nat.zero_add];exact hN);rw[hN];clear hN;go_enter Tryz.func236,Tryz.ntmps236
 go_wp2_with fail
 go_loopw [3] (fun s3 wr=> ∃n:Nat,n≤s.length∧s3= .int .i64 n∧n+bV (s.drop n)=N∧Below w.heap.size w wr) (fun n _=>s.length-(intOf n).toNat)
 case atStart=>exact⟨0,by omega,rfl,HN.q,Qb _ _⟩
 case round=>
  clear HN;obtain⟨n,hn,rfl,hr,hb⟩:=hrel;have Hr:=Qh hr;clear hr;by_cases hlt:n<s.length
  ·have hx:=l6 (P:=Tryz.prog) Tryz.underlying9 s (n:Int) n rfl hlt;have d1:decide ((n:Int)<(s.length:Int))=true:=Qt (by omega);have kN:n+(if s.getD n 0=0 then bV (s.drop (n+1))+1 else 0)=N:=by
    rw[←Hr.q,List.drop_eq_getElem_cons hlt,bV];simp[List.getD,hlt]
   have he:=Xtr (s.getD n 0) 0 (by decide);have Vi:((((s.getD n 0).toNat:Nat):Int)==0)=(s.getD n 0==0):=he;have bT:=Qh kN;clear kN he;generalize s.getD n 0=ch at hx bT Vi;cases hc:(ch==0)
   ·rw[hc]at Vi;have Hn:=Qh (show n=N by have:=bT.q;rwa[if_neg (by simpa using hc),Nat.add_zero]at this);clear hc bT Hr;go_wp2;go_ret;exact⟨dK (by rw[←Hn.q]),hb⟩
   ·rw[hc]at Vi;have Hn:=Qh (show n+1+bV (s.drop (n+1))=N by
     have:=bT.q;rw[if_pos (by simpa using hc)]at this;omega)
    clear hc bT Hr;go_wp2;go_roundw;case rel=>exact⟨n+1,by omega,by go_num,Hn.q,hb⟩
    case measure=>simp[intOf];omega
  ·have d1:decide ((n:Int)<(s.length:Int))=false:=Qf (by omega);have Hn:=Qh (show n=N by have:=Hr.q;rwa[List.drop_of_length_le (by omega),bV,Nat.add_zero]at this);clear Hr;go_wp2;go_ret;exact⟨dK (by rw[←Hn.q]),hb⟩
structure Rn where
 d:af
 n:Nat
def Rn.enc(x:Rn):Array Value:=#[S x.d,.int .i64 (x.n:Nat)]
def nE(x:Rn):List Sg:=iD x.d++if 0<x.n then [⟨(x.n:Nat),[]⟩]else []
def dS(l:List Rn):List Sg:=l.flatMap nE
theorem RG(l:List Rn)(x:Rn):dS (l++[x])=dS l++nE x:=by simp[dS]
theorem YP:∀{l:List Rn},(∀x∈l,x.d≠[]∨0<x.n)→l.length≤(dS l).length
 | [],_=>Qn _
 |x::l,h=>by
  have ih:=YP (l:=l) fun y hy=>h y (List.mem_cons_of_mem _ hy);have h1:1≤(nE x).length:=by
   unfold nE iD;rcases h x (List.mem_cons_self ..)with h1|h1
   ·rw[if_neg h1];simp
   ·rw[if_pos h1];simp
  show l.length+1≤(nE x++dS l).length;rw[List.length_append];omega
theorem Xpi(n:Nat)(hn:1≤n)(s:af)(hs:s.length≤4294967280)(Bx:Nat)(w:World)(hB:w.heap[Bx]?=some (.cells #[S s] 9 (0,0))):
 SeqStopsK Fence.wide n Tryz.prog 235 #[.pointer (some ⟨Bx,0,none⟩)] Rn.enc (fun W W'=>W'.heap[Bx]?=W.heap[Bx]?) (fun xs=>dS xs=gX s) (fun _=>True) (s.length+1) w:=by
 intro l J Jx W hW hJ _ hY h0;have MK:W.heap[Bx]?=some (.cells #[S s] 9 (0,0)):=(hW.block _ (Qg hB)).trans hB;have HJ:=Qh hJ;have HY:=Qh hY;have H0:=Qh h0;have HB:=Qh MK;clear hJ hY h0 hW hB MK;have bU:=Yq s;obtain⟨N,hN⟩:∃N,gX s=N:=⟨_,rfl⟩;have HN:=Qh (show dS []++nW ((s.drop 0).take (0-0)) (s.drop 0)=N from hN);rw[hN]at bU ⊢;clear hN;refine callsIn_of_wp Tryz.func235 rfl trivial ?_ rfl;simp only[Tryz.ntmps235,List.size_toArray,List.length_cons,List.length_nil,Nat.reduceAdd,Nat.reduceSub,Array.replicate_succ,Array.replicate_zero,List.push_toArray,List.append_toArray,List.nil_append,List.cons_append];gi_wp2
 gi_loopw [3,4] (fun s3 s4 wr=> ∃(f i:Nat) (pre:List Rn),f≤i∧i≤s.length∧s3= .int .i64 f∧s4= .int .i64 i∧wr.heap[Bx]?=some (.cells #[S s] 9 (0,0))∧dS pre++nW ((s.drop f).take (i-f)) (s.drop i)=N∧(∀x∈pre,x.d≠[]∨0<x.n)∧J pre wr) (fun _ i _=>s.length-(intOf i).toNat)
 case atStart=>exact⟨0,0,[],Qn _,Nat.zero_le _,rfl,rfl,HB.q,HN.q,fun _ h=>(by cases h),H0.q⟩
 case round=>
  clear HB HN H0;obtain⟨f,i,pre,hfi,his,rfl,rfl,qV,ry,aZ,hj⟩:=hrel;have p9:=Qh ry;have Hj:=Qh hj;have vP:=Qh qV;have Ih:=Qh aZ;have c0:wr.cell? ⟨Bx,0,none⟩=some (S s):=(cell_of_row wr _ 0 _ _ _ qV).trans rfl;have nO:pre.length≤s.length:=by
   have h1:=YP aZ;have h2:=congrArg List.length ry;rw[List.length_append]at h2;omega
  clear ry hj qV aZ;have hfs:(f:Int)≤(s.length:Int):=by omega
  have agv:(i:Int)≤(s.length:Int):=by omega
  have agw:(f:Int)≤(i:Int):=by omega
  have hf0:(0:Int)≤(f:Int):=by omega
  have hi0:(0:Int)≤(i:Int):=by omega
  by_cases hlt:i<s.length
  ·have d0:decide ((i:Int)<(s.length:Int))=true:=Qt (by omega);have Gs:s.drop i≠[]:=fun e=>by have:=congrArg List.length e;rw[List.length_drop]at this;simp at this;omega
   have hz:=Rs (s.drop i);rw[List.length_drop]at hz;have Hz:=Qh (Xph (s.drop i) (by rw[List.length_drop];omega) wr);have bT:=Qh (And.intro (fun h=>Xpo (acc:=(s.drop f).take (i-f)) Gs h) (fun h=>Xpp (acc:=(s.drop f).take (i-f)) Gs h));generalize bV (s.drop i)=z at hz Hz bT;have htd:List.take (s.length-i) (List.drop i s)=List.drop i s:=List.take_of_length_le (by rw[List.length_drop];omega);clear Gs;gi_wp2_with fail
   refine⟨trivial,(callsIn_wide.2 Hz.q).mono ?_⟩;rintro e1 w1 ⟨rfl,aG⟩;have GA:=HJ.q _ _ _ none Hj.q (RD aG) (fun r h=>by cases h);have c1:=bI aG c0;have wR:=Qh ((aG.block _ (Qg vP.q)).trans vP.q);clear Hz aG Hj vP c0;by_cases rf:32≤z
   ·have d1:decide ((32:Int)≤(z:Int))=true:=Qt (by omega);have m1:IntKind.i64.wrap ((i:Int)+(z:Int))=(i:Int)+(z:Int):=IntWalk.i64_in _ (by omega);obtain⟨fn,tmps,assign,body,hy,hR⟩:=HY.q pre ⟨(s.drop f).take (i-f),z⟩ w1 GA (by omega);have Hn:=Qh (show dS (pre++[⟨(s.drop f).take (i-f),z⟩])++nW ((s.drop (i+z)).take (i+z-(i+z))) (s.drop (i+z))=N by
     rw[←p9.q,bT.q.1 rf,RG,nE,if_pos (by dsimp only;omega)];simp[List.drop_drop])
    have RH:=Qh (show ∀x∈pre++[(⟨(s.drop f).take (i-f),z⟩:Rn)],x.d≠[]∨0<x.n from fun x hx=>by
     rcases List.mem_append.1 hx with hx|hx
     ·exact Ih.q x hx
     ·rw[List.mem_singleton.1 hx];exact .inr (by dsimp only;omega))
    dsimp only[Rn.enc]at hy;clear bT p9 Ih GA;gi_wp2
    refine hR.mono ?_;rintro e W3 (⟨rfl,yt,qx⟩|⟨rfl,GD⟩)
    ·have RF:=Qh yt;have wT:=Qh (qx.trans wR.q);clear yt qx hy c1;gi_wp2
     go_roundw;case rel=>exact⟨i+z,i+z,_,Qn _,by omega,by go_num,by go_num,wT.q,Hn.q,RH.q,RF.q⟩
     case measure=>simp[intOf];omega
    ·gi_wp2
     refine bodyPost_ret (results_none rfl _ _ _) rfl ?_;exact⟨⟨_,rfl⟩,.inr ⟨_,trivial,GD⟩⟩
   ·have d1:decide ((32:Int)≤(z:Int))=false:=Qf (by omega);have Ja:max (z:Int) 1=((max z 1:Nat):Int):=by omega
    have hmn:1≤max z 1∧i+max z 1≤s.length:=by omega
    have Hn:=Qh (show dS pre++nW ((s.drop f).take (i+max z 1-f)) (s.drop (i+max z 1))=N by
     rw[←p9.q,bT.q.2 rf,List.drop_drop];congr 2;rw[show i+max z 1-f=(i-f)+max z 1 by omega,List.take_add,List.drop_drop,show f+(i-f)=i by omega])
    generalize max z 1=m at Ja hmn Hn;have m1:IntKind.i64.wrap ((i:Int)+(m:Int))=(i:Int)+(m:Int):=IntWalk.i64_in _ (by omega);have HJ1:=Qh GA;clear bT p9 GA;gi_wp2
    go_roundw;case rel=>exact⟨f,i+m,pre,by omega,by omega,rfl,by go_num,wR.q,Hn.q,Ih.q,HJ1.q⟩
    case measure=>simp[intOf];omega
  ·have d0:decide ((i:Int)<(s.length:Int))=false:=Qf (by omega);have IY:i=s.length:=by omega
   have Hn:=Qh (show dS pre++iD (s.drop f)=N by
    have:=p9.q;rwa[List.drop_of_length_le (show s.length≤i by omega),Xrv,List.take_of_length_le (by rw[List.length_drop];omega)]at this)
   by_cases hf:f<s.length
   ·have d1:decide ((f:Int)<(s.length:Int))=true:=Qt (by omega);obtain⟨fn,tmps,assign,body,hy,hR⟩:=HY.q pre ⟨s.drop f,0⟩ wr Hj.q (by omega);have Hs:=Qh (show dS (pre++[⟨s.drop f,0⟩])=N by rw[RG,←Hn.q];simp[nE]);dsimp only[Rn.enc]at hy;rw[show(((0:Nat):Int))=0 from rfl]at hy;have htd:List.take (s.length-f) (List.drop f s)=List.drop f s:=List.take_of_length_le (by rw[List.length_drop];omega);clear p9 Hj;gi_wp2
    refine hR.mono ?_;rintro e W3 (⟨rfl,yt,qx⟩|⟨rfl,GD⟩)
    ·gi_wp2
     go_end0
     exact⟨⟨_,rfl⟩,.inl ⟨_,Hs.q,yt⟩⟩
    ·gi_wp2
     go_end0
     exact⟨⟨_,rfl⟩,.inr ⟨_,trivial,GD⟩⟩
   ·have d1:decide ((f:Int)<(s.length:Int))=false:=Qf (by omega);have Hs:=Qh (show dS pre=N by
     have:=Hn.q;rw[List.drop_of_length_le (show s.length≤f by omega)]at this;simpa[iD]using this)
    clear p9;gi_wp2
    go_end0
    exact⟨⟨_,rfl⟩,.inl ⟨_,Hs.q,Hj.q⟩⟩
theorem Xrr(s:af)(w:World):Calls Tryz.prog 197 #[S s] w fun e w'=>e= .returned (.func (.func 235) #[] #[.pointer (some ⟨w.heap.size,0,none⟩)])∧w'=w.alloc (.cells #[S s] 9):=by
 go_enter Tryz.func197,Tryz.ntmps197
 go_wp2;go_ret;exact⟨rfl,rfl⟩
theorem Xol(d:af):(iD d).length≤1:=by unfold iD;split<;>simp
theorem YQ:∀l:List Rn,(dS l).length≤2*l.length
 | []=>Qn _
 |x::l=>by
  have ih:=YQ l;have h1:=Xol x.d;have h2:(nE x).length≤2:=by
   unfold nE;rw[List.length_append];split<;>simp<;>omega
  show(nE x++dS l).length≤_;rw[List.length_append,List.length_cons];omega
structure xR (b:Nat) (w:World) (l:List Sg) (v:Value) (W:World):Prop where
 box:W.heap[b]?=some (.cells #[v] 165 (0,0))
 own:aN EY 168 (fun _=>none) W (b+2) v l
 eD:Below b w W
section
variable {b B:Nat} {w W W':World} {l l':List Sg} {v v':Value}
theorem xR.c0(h:xR b w l v W):W.cell? ⟨b,0,none⟩=some v:=(cell_of_row W _ 0 _ _ _ h.box).trans rfl
theorem xR.f0(h:xR b w l v W):W.frozen? ⟨b,0,none⟩=false:=frozen_of_row W _ 0 _ _ h.box
theorem xR.ne(h:xR b w l v W){k:Nat}(hk:k<b+2):v.ownBlock≠some k:=fun e=>by have:=(oF h.own e).1;omega
theorem xR.turn{row:Option Nat}(h:xR b w l v W)(hb:b≤w.heap.size)(hB:b≤B)(hg:W.grownBy W' row)(hr:∀r,row=some r→B≤r∧ ∃o:Obj,W.heap[r]?=some o∧o.isCells=false):xR b w l v W':=
 ⟨YJ h.box hg fun r e=>(hr r e).2,h.own.turn hg fun r e=>(hr r e).2,Below.turn h.eD hb hB hg hr⟩
theorem xR.add(h:xR b w l v W)(hb:b≤w.heap.size)(ho:aN EY 168 (fun _=>none) W' (b+2) v' l')(hg:W.grownBy W' v.ownBlock):
 xR b w l' v' (W'.setCell ⟨b,0,none⟩ v')∧KeepsFrom B W (W'.setCell ⟨b,0,none⟩ v')∧(b+1<W.heap.size→(W'.setCell ⟨b,0,none⟩ v').heap[b+1]?=W.heap[b+1]?):=by
 have hlt:=(Qg h.box);have hs:=h.eD.size;have e1:W'.heap[b]?=some (.cells #[v] 165 (0,0)):=(hg.block _ hlt (fun e=>h.ne (by omega) e.symm)).trans h.box;refine⟨⟨heap_setCell_same W' b 0 _ _ v' e1,ho.stored (fun e=>by have:=(oF ho e).1;omega) 0 v',(h.eD.grown hg (by omega) (fun k hk=>by have:=(oF h.own hk).1;omega)).setCell (p:=⟨b,0,none⟩) (Qn _) v'⟩,(KeepsFrom.own h.own hg).trans (KeepsFrom.uH W' ⟨b,0,none⟩ v'),fun hl=> ?_⟩;exact(heap_setCell_other W' ⟨b,0,none⟩ (b+1) v' (by show b+1≠b;omega)).trans (hg.block _ hl (fun e=>h.ne (by omega) e.symm))
end
def Fb(b:Nat)(w:World)(pre:List Rn)(W:World):Prop:=∃v,xR b w (dS pre) v W∧b+1<W.heap.size
theorem Xrs{B:Nat}{w:World}(hb:b≤w.heap.size)(hB:b≤B):OwnFrom B (Fb b w):=fun pre W W' row ⟨v,h,hl⟩ hg hr=>⟨v,h.turn hb hB hg hr,Nat.lt_of_lt_of_le hl hg.size⟩
theorem Xpj(I:IH)(s:af)(hs:s.length≤4294967280)(w:World):
 Calls Tryz.prog 150 #[S s] w fun e w'=> ∃v',e= .returned v'∧aN EY 168 I w' w.heap.size v' (gX s)∧Below w.heap.size w w':=by
 have H0:=Qh (show Fb w.heap.size w [] ((w.alloc (.cells #[.slice none 0 0] 165)).alloc (.cells #[S s] 9))from⟨_,⟨(Below.heap_alloc _ _ _ (by simp)).trans (heap_alloc_new w _),aN.nil _ _ _ _ _,((Qb _ _).alloc (Qn _) _).alloc (by simp) _⟩,by simp⟩);have HB:=Qh (show((w.alloc (.cells #[.slice none 0 0] 165)).alloc (.cells #[S s] 9)).heap[w.heap.size+1]?=some (.cells #[S s] 9 (0,0)) by
  have h:=heap_alloc_new (w.alloc (.cells #[.slice none 0 0] 165)) (.cells #[S s] 9);simpa using h)
 have cu:((w.alloc (.cells #[.slice none 0 0] 165)).alloc (.cells #[S s] 9)).heap.size=w.heap.size+2:=by simp
 refine(callsIn_wide (n:=3)).1 ?_;refine callsIn_of_wp_marks Tryz.func150 rfl trivial ?_ rfl;simp only[Tryz.ntmps150,List.size_toArray,List.length_cons,List.length_nil,Nat.reduceAdd,Nat.reduceSub,Array.replicate_succ,Array.replicate_zero,List.push_toArray,List.append_toArray,List.nil_append,List.cons_append];gi_wp2_with fail
 refine⟨trivial,(callsIn_wide.2 (Xrr s _)).mono ?_⟩;rintro e w1 ⟨rfl,rfl⟩;gi_wp2
 generalize Pj:((w.alloc (.cells #[.slice none 0 0] 165)).alloc (.cells #[S s] 9))=W0 at H0 HB cu ⊢;clear Pj
 refine wpIn_rangeFunc_ownG rfl (by decide) (gf:=235) (lb:=#[.pointer (some ⟨w.heap.size+1,0,none⟩)]) rfl trivial (enters_of Tryz.func235 (by kernel_rfl) rfl)
  (Xpi _ (by decide) s hs (w.heap.size+1) W0 HB.q) (fun h k=>k.trans h) (fun W l o o' hl _ _ _=>World.putObj_heap_other (by omega)) (Qb _ _) (fun _=>rfl)
  (Fb w.heap.size w) (fun _ _ _=>False) (Xrs (Qn _) (by omega)) (fun _ _ _ _ _ h _ _=>h) H0.q
  (fun x=> {tmps:=#[S s,undef,.slice none 0 0,.pointer (some ⟨w.heap.size,0,none⟩),S x.d,.int .i64 (x.n:Nat),S s,.func (.func 235) #[] #[.pointer (some ⟨w.heap.size+1,0,none⟩)],S x.d,.int .i64 (x.n:Nat),undef,undef,undef,undef,undef,undef,undef,undef,undef,undef,undef,undef,undef,undef,undef],defers:=[]})
  ?assign ?body ?done ?stop
 case assign=>
  intro l x W K hK;obtain⟨d,n⟩:=x;dsimp only[Rn.enc];gi_wp2
  exact hK
 case body=>
  intro l pre x W ⟨v,h,hl⟩ nO;have Gr:=YQ pre;have Vj:=RG pre x;have hbs:=h.eD.size;obtain⟨a0,n0,k0,rfl⟩:=zI h.own;have H:=Qh h;have c0:=h.c0;clear h;obtain⟨d,n⟩:=x;dsimp only at Vj ⊢;have Og:=Qh Vj;clear Vj;by_cases hd:d=[]
  ·obtain⟨p1,p2,p3,p4⟩:=Bp hd;by_cases hn:0<n
   ·have d1:decide ((0:Int)<(n:Int))=true:=Qt (by omega);have d2:decide (0<n)=true:=Qt hn;have Hl:=Qh (show dS (pre++[⟨d,n⟩])=dS pre++[⟨(n:Nat),[]⟩] by rw[Og.q,nE,hd,if_pos hn];rfl);clear hd hn;gi_wp2_with (gi_at_builtin;go_loud (refine Kz (w0:=W) Ob rfl _ _ rfl (w.heap.size+2) _ (dS pre) rfl H.q.own ⟨(n:Nat),[]⟩ [.int .i64 (n:Nat),S []] _ (by first|rfl|simp[Act.eval]) rfl (by omega) (by omega) (by omega) ?_))
    intro v7 w7 uZ kI Oe;obtain⟨g7,n7,k7,rfl⟩:=zI uZ;have YR:=iV kI (H.q.ne (k:=w.heap.size) (by omega)) H.q.c0;have YS:=AQ kI (H.q.ne (k:=w.heap.size) (by omega)) H.q.c0 H.q.f0;obtain⟨k1,k2,k3⟩:=H.q.add (B:=W0.heap.size) (Qn _) uZ kI;gi_wp2
    show KeepsFrom W0.heap.size W _∧_=_∧Fb w.heap.size w _ _;exact⟨k2,k3 hl,_,by rw[Hl.q];exact k1,by have:=kI.size;simp;omega⟩
   ·have d1:decide ((0:Int)<(n:Int))=false:=Qf (by omega);have d2:decide (0<n)=false:=Qf hn;have Hl:=Qh (show dS (pre++[⟨d,n⟩])=dS pre by rw[Og.q,nE,hd,if_neg hn];simp[iD]);clear hd hn;gi_wp2
    show KeepsFrom W0.heap.size W _∧_=_∧Fb w.heap.size w _ _;exact⟨KeepsFrom.refl _ _,rfl,_,by rw[Hl.q];exact H.q,hl⟩
  ·obtain⟨p1,p2,p3,p4⟩:=Bo hd;by_cases hn:0<n
   ·have d1:decide ((0:Int)<(n:Int))=true:=Qt (by omega);have d2:decide (0<n)=true:=Qt hn;have Hl:=Qh (show dS (pre++[⟨d,n⟩])=dS pre++[⟨0,d⟩,⟨(n:Nat),[]⟩] by rw[Og.q,nE,iD,if_neg hd,if_pos hn];simp);clear hd hn;gi_wp2_with (gi_at_builtin;go_loud (refine Kz (w0:=W) Ob rfl _ _ rfl (w.heap.size+2) _ (dS pre) rfl H.q.own ⟨0,d⟩ [.int .i64 0,S d] _ (by first|rfl|simp[Act.eval]) rfl (by omega) (by omega) (by omega) ?_))
    intro v7 w7 uZ kI Oe;obtain⟨g7,n7,k7,rfl⟩:=zI uZ;have YR:=iV kI (H.q.ne (k:=w.heap.size) (by omega)) H.q.c0;have YS:=AQ kI (H.q.ne (k:=w.heap.size) (by omega)) H.q.c0 H.q.f0;obtain⟨k1,k2,k3⟩:=H.q.add (B:=W0.heap.size) (Qn _) uZ kI;have K1:=Qh k1;have K2:=Qh k2;have K3:=Qh (k3 hl);have c7:=k1.c0;have sG:W.heap.size≤(w7.setCell ⟨w.heap.size,0,none⟩ (.slice g7 n7 k7)).heap.size:=by have:=kI.size;simp;omega
    have Ee:(dS pre++[(⟨0,d⟩:Sg)]).length≤2*pre.length+1:=by simp;omega
    clear k1 k2 k3 uZ kI Oe c0;gi_wp2_with (gi_at_builtin;go_loud (refine Kz (w0:=(w7.setCell ⟨w.heap.size,0,none⟩ (.slice g7 n7 k7))) Ob rfl _ _ rfl (w.heap.size+2) _ (dS pre++[⟨0,d⟩]) rfl K1.q.own ⟨(n:Nat),[]⟩ [.int .i64 (n:Nat),S []] _ (by first|rfl|simp[Act.eval]) rfl (by omega) (by omega) (by omega) ?_))
    intro v8 w8 si uW Ki;obtain⟨g8,n8,k8,rfl⟩:=zI si;have cp8:=iV uW (K1.q.ne (k:=w.heap.size) (by omega)) K1.q.c0;have fp8:=AQ uW (K1.q.ne (k:=w.heap.size) (by omega)) K1.q.c0 K1.q.f0;obtain⟨k1,k2,k3⟩:=K1.q.add (B:=W0.heap.size) (Qn _) si uW;gi_wp2
    show KeepsFrom W0.heap.size W _∧_=_∧Fb w.heap.size w _ _;exact⟨K2.q.trans k2,(k3 (by omega)).trans K3.q,_,by rw[Hl.q];exact k1,by have:=uW.size;simp;omega⟩
   ·have d1:decide ((0:Int)<(n:Int))=false:=Qf (by omega);have d2:decide (0<n)=false:=Qf hn;have Hl:=Qh (show dS (pre++[⟨d,n⟩])=dS pre++[⟨0,d⟩] by rw[Og.q,nE,iD,if_neg hd,if_neg hn];simp);clear hd hn;gi_wp2_with (gi_at_builtin;go_loud (refine Kz (w0:=W) Ob rfl _ _ rfl (w.heap.size+2) _ (dS pre) rfl H.q.own ⟨0,d⟩ [.int .i64 0,S d] _ (by first|rfl|simp[Act.eval]) rfl (by omega) (by omega) (by omega) ?_))
    intro v7 w7 uZ kI Oe;obtain⟨g7,n7,k7,rfl⟩:=zI uZ;have YR:=iV kI (H.q.ne (k:=w.heap.size) (by omega)) H.q.c0;have YS:=AQ kI (H.q.ne (k:=w.heap.size) (by omega)) H.q.c0 H.q.f0;obtain⟨k1,k2,k3⟩:=H.q.add (B:=W0.heap.size) (Qn _) uZ kI;gi_wp2
    show KeepsFrom W0.heap.size W _∧_=_∧Fb w.heap.size w _ _;exact⟨k2,k3 hl,_,by rw[Hl.q];exact k1,by have:=kI.size;simp;omega⟩
 case done=>
  rintro D xs W hD hS ⟨v,h,hl⟩ hK;have c0:=h.c0;have hbs:=h.eD.size;gi_wp2
  refine⟨by simp,.inl ⟨_,_,rfl,run_takeDeferred hK,?_⟩⟩;have h2:=h.turn (Qn _) (show w.heap.size≤w.heap.size from Qn _) (grownBy_putObj' W D (.deferred none)) (fun r e=>by cases e;exact⟨by omega,_,hK,rfl⟩);rw[hS]at h2;obtain⟨ys,q1,q2⟩:=h2.own;exact⟨_,results_tmp rfl _ _ _,v,rfl,aN.lower ⟨ys,q1,q2.1,fun i hi=>by obtain⟨cs,r1,r2⟩:=q2.2 i hi;exact⟨cs,r1,r2⟩⟩ (by omega),h2.eD⟩
 case stop=>
  rintro D c pre W _ _ h _;exact h.elim
open Go.RowKit
theorem RI(b:Nat)(s:af)(hs:s.length≤140737488355328)(w:World)(hc:w.cell? ⟨b,0,none⟩=some (S s))(yl:b<w.heap.size):
 Calls Tryz.prog 110 #[.slice (some ⟨b,0,none⟩) 1 1] w fun e w'=>e= .returned (S (dA s))∧Below w.heap.size w w':=
 XQ b 0 1 [s] s (by simp) hs w (fun j x hx=>by match j,hx with|0,hx=>cases hx;exact hc) (by simp) yl (by simp)
structure kC (n m B bo:Nat) (C0:Array Value) (w0:World) (J:IH) (W:World) (q:dX) (lm:List Ck) (l:List Xt) (vk ve:Value) (nn:Nat):Prop where
 ro:W.heap[m]?=some (.cells #[vk,.int .i64 q.aW,S q.str] 40 (0,0))
 r0:W.heap[n]?=some (.cells C0 40 (0,0))
 r1:W.heap[n+1]?=some (.cells #[.slice none 0 0,.int .i64 0,S []] 40 (0,0))
 rm:∃D,W.ownsMap Tryz.prog 9 ky B nn D∧nY D lm
 rb:W.heap[bo]?=some (.cells #[ve] 79 (0,0))
 ck:aN pY 156 J W (n+2) vk q.aM
 ox:aN kQ 109 J W (n+2) ve l
 ok:Ok J W
 fn:∀b,b=n∨b=n+1∨b=m∨b=B∨b=bo→J b=none
 fk:∀g,vk.ownBlock=some g→J g=none
 fe:∀g,ve.ownBlock=some g→J g=none
 DC:n+2≤m
 lB:n+2≤B
 lo:n+2≤bo
 hB:B<W.heap.size
 nw:n≤w0.heap.size
 eD:Below n w0 W
section
variable {n m B bo:Nat} {C0:Array Value} {w0:World} {J J':IH} {W W':World} {q q':dX} {lm YT:List Ck} {l l':List Xt} {vk ve nM AR:Value} {nn:Nat}
theorem kC.lt(h:kC n m B bo C0 w0 J W q lm l vk ve nn):m<W.heap.size∧bo<W.heap.size∧n+1<W.heap.size:=⟨(Qg h.ro),(Qg h.rb),(Qg h.r1)⟩
theorem Oh{W:World}{P:Program}{k:TypeId}{R:Value→Option (DataW Unit×List MemPlace)}{nn:Nat}(h:W.ownsMap P k R b nn D){c:Array Value}{t:TypeId}{f:Nat×Nat}{i:Nat}(hi:W.heap[i]?=some (.cells c t f)):i≠b:=by
 intro e;subst e;obtain⟨es,clock,hb,_⟩:=h;rw[hi]at hb;cases hb
theorem kC.mb(h:kC n m B bo C0 w0 J W q lm l vk ve nn):m≠bo:=fun e=>by
 have:=h.ro;rw[e,h.rb]at this;exact absurd (Obj.cells.inj (Option.some.inj this)).2.1 (by decide)
theorem kC.mB(h:kC n m B bo C0 w0 J W q lm l vk ve nn):m≠B∧bo≠B:=by
 obtain⟨D,h1,_⟩:=h.rm;exact⟨Oh h1 h.ro,Oh h1 h.rb⟩
theorem kC.rH(h:kC n m B bo C0 w0 J W q lm l vk ve nn):vk.ownBlock≠some m∧vk.ownBlock≠some bo∧vk.ownBlock≠some B∧(∀b,b<n+2→vk.ownBlock≠some b):=by
 refine⟨vN h.ck h.ro (by decide),vN h.ck h.rb (by decide),fun e=> ?_,fun b hb e=> ?_⟩
 ·obtain⟨D,h1,_⟩:=h.rm;obtain⟨_,cur,hc⟩:=oF h.ck e;exact Oh h1 hc rfl
 ·have:=(oF h.ck e).1;omega
theorem kC.wU(h:kC n m B bo C0 w0 J W q lm l vk ve nn):ve.ownBlock≠some m∧ve.ownBlock≠some bo∧ve.ownBlock≠some B∧(∀b,b<n+2→ve.ownBlock≠some b):=by
 refine⟨vN h.ox h.ro (by decide),vN h.ox h.rb (by decide),fun e=> ?_,fun b hb e=> ?_⟩
 ·obtain⟨D,h1,_⟩:=h.rm;obtain⟨_,cur,hc⟩:=oF h.ox e;exact Oh h1 hc rfl
 ·have:=(oF h.ox e).1;omega
theorem kC.kv(h:kC n m B bo C0 w0 J W q lm l vk ve nn):vk.ownBlock=none∨vk.ownBlock≠ve.ownBlock:=by
 cases hk:vk.ownBlock with
 |none=>exact .inl rfl
 |some g=>
  refine .inr fun e=> ?_;obtain⟨_,c1,h1⟩:=oF h.ck hk;obtain⟨_,c2,h2⟩:=oF h.ox e.symm;rw[h1]at h2;exact absurd (Obj.cells.inj (Option.some.inj h2)).2.1 (by decide)
theorem kC.vkv(h:kC n m B bo C0 w0 J W q lm l vk ve nn):ve.ownBlock=none∨ve.ownBlock≠vk.ownBlock:=by
 rcases h.kv with h1|h1
 ·cases he:ve.ownBlock with
  |none=>exact .inl rfl
  |some g=>exact .inr (by rw[h1];simp)
 ·exact .inr fun e=>h1 e.symm
theorem kC.ext(h:kC n m B bo C0 w0 J W q lm l vk ve nn)(hb:Below W.heap.size W W')(hx:Ext W.heap.size J J')(iU:Ok J' W'):kC n m B bo C0 w0 J' W' q lm l vk ve nn:=by
 obtain⟨l1,l2,l3⟩:=h.lt;have hk:=hx.keep h.ok (Qn _);have hs:=hb.size;obtain⟨D,d1,d2⟩:=h.rm;refine⟨(hb.block _ l1).trans h.ro,(hb.block _ (by omega)).trans h.r0,(hb.block _ l3).trans h.r1,⟨D,d1.kept (RD hb) (by simp),d2⟩,(hb.block _ l2).trans h.rb,(h.ck.below hb).mono hk,(h.ox.below hb).mono hk,iU,fun b qm=> ?_,fun g hg=> ?_,fun g hg=> ?_,h.DC,h.lB,h.lo,by have:=h.hB;omega,h.nw,h.eD.trans (hb.mono (by omega))⟩
 ·rw[hx b (by have:=h.hB;have:=h.DC;omega)];exact h.fn b qm
 ·rw[hx g ((oF h.ck hg).2.elim fun c hc=>(Qg hc))];exact h.fk g hg
 ·rw[hx g ((oF h.ox hg).2.elim fun c hc=>(Qg hc))];exact h.fe g hg
theorem kC.below(h:kC n m B bo C0 w0 J W q lm l vk ve nn)(hb:Below W.heap.size W W'):kC n m B bo C0 w0 J W' q lm l vk ve nn:=h.ext hb (Ext.refl _ _) (h.ok.below (Qn _) hb)
theorem kC.past(h:kC n m B bo C0 w0 J W q lm l vk ve nn)(o:Obj):kC n m B bo C0 w0 J (W.alloc o) q lm l vk ve nn:=h.below ((Qb _ _).alloc (Qn _) o)
theorem kC.mapped(h:kC n m B bo C0 w0 J W q lm l vk ve nn)(hg:W.grownBy W' (some B)){n2:Nat}(hD:W'.ownsMap Tryz.prog 9 ky B n2 D)(hM:nY D YT):kC n m B bo C0 w0 J W' q YT l vk ve n2:=by
 obtain⟨l1,l2,l3⟩:=h.lt;have hb:=h.lB;have k:∀i,i<W.heap.size→i≠B→W'.heap[i]?=W.heap[i]? :=fun i hi aZ=>hg.block i hi (fun e=>aZ (by cases e;rfl))
 exact⟨(k _ l1 h.mB.1).trans h.ro,(k _ (by omega) (by omega)).trans h.r0,(k _ l3 (by omega)).trans h.r1,⟨D,hD,hM⟩,(k _ l2 h.mB.2).trans h.rb,h.ck.kept hg (.inr h.rH.2.2.1),h.ox.kept hg (.inr h.wU.2.2.1),h.ok.grown hg (fun g e=>by cases e;exact h.fn _ (by simp)),h.fn,h.fk,h.fe,h.DC,h.lB,h.lo,by have:=h.hB;have:=hg.size;omega,h.nw,
  h.eD.grown hg (by omega) (fun i e=>by cases e;omega)⟩
theorem kC.added(h:kC n m B bo C0 w0 J W q lm l vk ve nn)(ho:aN pY 156 J W' (n+2) nM q'.aM)(hg:W.grownBy W' vk.ownBlock)(hl:∀g,nM.ownBlock=some g→vk.ownBlock=some g∨W.heap.size≤g)(e1:q'.aW=q.aW)(e2:q'.str=q.str):
 kC n m B bo C0 w0 J (W'.setCell ⟨m,0,none⟩ nM) q' lm l nM ve nn:=by
 obtain⟨l1,l2,l3⟩:=h.lt;obtain⟨k1,k2,k3,k4⟩:=h.rH;have hm:=h.DC;have s:∀i,i≠m→(W'.setCell ⟨m,0,none⟩ nM).heap[i]?=W'.heap[i]? :=fun i hi=>heap_setCell_other W' ⟨m,0,none⟩ i nM hi;have k:∀i,i<W.heap.size→vk.ownBlock≠some i→W'.heap[i]?=W.heap[i]? :=fun i hi aZ=>hg.block i hi (fun e=>aZ e.symm);have r1:=(k m l1 k1).trans h.ro;obtain⟨D,d1,d2⟩:=h.rm;have d3:=d1.kept hg (fun e=>k3 e.symm);have gs:W'.grownBy (W'.setCell ⟨m,0,none⟩ nM) (some m):=grownBy_setCell' W' m nM;refine⟨by rw[e1,e2];exact heap_setCell_same W' m 0 _ _ nM r1,(s _ (by omega)).trans ((k _ (by omega) (k4 _ (by omega))).trans h.r0),(s _ (by omega)).trans ((k _ l3 (k4 _ (by omega))).trans h.r1),⟨D,d3.kept gs (fun e=>h.mB.1 (by cases e;rfl)),d2⟩,(s _ h.mb.symm).trans ((k _ l2 k2).trans h.rb),ho.stored (vN ho r1 (by decide)) 0 nM,?_,(h.ok.grown hg (fun g e=>h.fk g e)).setCell (a:=⟨m,0,none⟩) (h.fn m (by simp)) nM,h.fn,fun g hk=> ?_,h.fe,h.DC,h.lB,h.lo,by have:=h.hB;have:=hg.size;simp;omega,h.nw,?_⟩
 ·have YU:=h.ox.kept hg h.vkv;exact YU.stored (vN YU r1 (by decide)) 0 nM
 ·rcases hl g hk with h1|h1
  ·exact h.fk g h1
  ·exact h.ok.fresh h1
 ·exact(h.eD.grown hg (by omega) (fun i e=>by have:=(oF h.ck e).1;omega)).setCell (p:=⟨m,0,none⟩) (by show n≤m;omega) nM
theorem kC.wrote(h:kC n m B bo C0 w0 J W q lm l vk ve nn)(b:af):kC n m B bo C0 w0 J (W.setCell ⟨m,2,none⟩ (S b)) ⟨q.aM,q.aW,b⟩ lm l vk ve nn:=by
 have hm:=h.DC;have s:∀i,i≠m→(W.setCell ⟨m,2,none⟩ (S b)).heap[i]?=W.heap[i]? :=fun i hi=>heap_setCell_other W ⟨m,2,none⟩ i (S b) hi;have gs:W.grownBy (W.setCell ⟨m,2,none⟩ (S b)) (some m):=⟨rfl,rfl,rfl,by simp,fun i _ hk=>s i (fun e=>hk (by rw[e]))⟩;obtain⟨D,d1,d2⟩:=h.rm;exact⟨heap_setCell_same W m 2 _ _ (S b) h.ro,(s _ (by omega)).trans h.r0,(s _ (by omega)).trans h.r1,⟨D,d1.kept gs (fun e=>h.mB.1 (by cases e;rfl)),d2⟩,(s _ h.mb.symm).trans h.rb,h.ck.stored h.rH.1 2 _,h.ox.stored h.wU.1 2 _,h.ok.setCell (a:=⟨m,2,none⟩) (h.fn m (by simp)) _,h.fn,h.fk,h.fe,h.DC,h.lB,h.lo,by have:=h.hB;simp;omega,h.nw,h.eD.setCell (p:=⟨m,2,none⟩) (by show n≤m;omega) _⟩
theorem kC.Fe(h:kC n m B bo C0 w0 J W q lm l vk ve nn)(hr:W'.heap[bo]?=some (.cells #[AR] 79 (0,0)))(ho:aN kQ 109 J W' (n+2) AR l')(hg:qE W W' ve.ownBlock bo)(hl:∀g,AR.ownBlock=some g→ve.ownBlock=some g∨W.heap.size≤g):kC n m B bo C0 w0 J W' q lm l' vk AR nn:=by
 obtain⟨l1,l2,l3⟩:=h.lt;obtain⟨k1,k2,k3,k4⟩:=h.wU;have hb:=h.lo;have k:∀i,i<W.heap.size→ve.ownBlock≠some i→i≠bo→W'.heap[i]?=W.heap[i]? :=fun i hi aZ Em=>hg.block i hi (fun e=>aZ e.symm) Em;obtain⟨D,⟨es,clock,d1,d2⟩,d3⟩:=h.rm;refine⟨(k _ l1 k1 h.mb).trans h.ro,(k _ (by omega) (k4 _ (by omega)) (by omega)).trans h.r0,(k _ l3 (k4 _ (by omega)) (by omega)).trans h.r1,⟨D,⟨es,clock,(k _ h.hB k3 h.mB.2.symm).trans d1,d2⟩,d3⟩,hr,?_,ho,?_,h.fn,h.fk,fun g hk=> ?_,h.DC,h.lB,h.lo,Nat.lt_of_lt_of_le h.hB hg.size,h.nw,hg.below h.eD h.nw (fun g e=>by have:=(oF h.ox e).1;omega) (by omega)⟩
 ·obtain⟨xs,x1,x2⟩:=h.ck;refine⟨xs,⟨x1.1,?_⟩,x2⟩;rcases x1.2 with y|⟨g,cap,cur,y1,y2,y3,y4⟩
  ·exact .inl y
  ·have RJ:vk.ownBlock=some g:=by rw[y1];rfl
   refine .inr ⟨g,cap,cur,y1,y2,(k g (Qg y3) (fun e=> ?_) (fun e=>h.rH.2.1 (by rw[RJ,e]))).trans y3,y4⟩;rcases h.kv with z|z
   ·rw[RJ]at z;cases z
   ·exact z (by rw[RJ,e])
 ·refine h.ok.of_block fun b c hc=>k b (h.ok.lt hc) (fun e=> ?_) (fun e=> ?_)
  ·rw[h.fe b e]at hc;cases hc
  ·rw[e,h.fn bo (by simp)]at hc;cases hc
 ·rcases hl g hk with h1|h1
  ·exact h.fe g h1
  ·exact h.ok.fresh h1
end
structure zL (s:bu):Prop where
 num:0≤s.num∧s.num≤255
 az:0≤s.az∧s.az≤1000000000
 bq:s.bq.length≤32
 aV:s.aV.length≤14680064
 wN:s.aB.length≤400
 err:∀e∈s.aB,aL e=0
 wf:∀e∈s.aB,e.Wf
 aD:∀e∈s.aB,e.aD.length≤1000
theorem Xne(h:zL s):(ny s).length≤400:=by
 have h1:=yE (n:=s.num) (by have:=h.num;omega) (by have:=h.num;omega);have h2:=yE (n:=s.az) (by have:=h.az;omega) (by have:=h.az;omega);have h3:=tq s.bq (by have:=h.bq;omega);have h4:=BG s.aV.length (by have:=h.aV;omega);have h5:=Ia s.aV;have h6:=tq (dA s.aV) (by omega);have h7:=BG s.aB.length (by have:=h.wN;omega);have h8:=h.bq;unfold ny;simp only[List.length_append];omega
theorem Xpn(h:zL s)(k:Nat):(mo s k).length≤22000000:=by
 have h1:=Xne h;have h2:=Yk (l:=s.aB.take k) fun e he=>⟨NQ (h.err e (List.mem_of_mem_take he)),h.aD e (List.mem_of_mem_take he)⟩;have h3:(s.aB.take k).length≤s.aB.length:=by simp;omega
 have h4:=h.wN;unfold mo;rw[List.length_append];omega
abbrev Oi(n:Nat)(st p4 sm p6 p7 u:af)(ao:Option Addr)(le co:Nat)(x:Nat×Nat):List (Option Tmp×Value):=
 [(some 20,.pointer (some ⟨n,4,none⟩)),(some 21,S st),(some 22,.int .i64 (st.length:Int)),(some 23,S p4),(some 24,.pointer (some ⟨n,4,none⟩)),(some 25,S st),(some 26,.slice (some ⟨x.1,0,none⟩) 1 1),(some 27,S sm),(some 28,S p6),(some 29,S (p4++p6)),
  (some 30,.pointer (some ⟨n,3,none⟩)),(some 31,.slice ao le co),(some 32,.int .i64 (le:Int)),(some 33,S p7),(some 34,S u),(some 35,.tuple #[.int .i64 (u.length:Int),.nilIface])]
theorem mr{n:Nat}{st p4 sm p6 p7 u:af}{ao:Option Addr}{le co:Nat}{x:Nat×Nat}:bE (Oi n st p4 sm p6 p7 u ao le co x):=by
 unfold bE;simp
theorem Xm9(I:IH)(hI:cB I)(s:bu)(ve:Value)(qf:aY bJ I ve s.aB)(hg:zL s)(w:World)(hw:Ok I w):
 Calls Tryz.prog 104 #[uG s ve] w fun r w'=>r= .returned (S (dA (jY s)))∧Below w.heap.size w w':=by
 obtain⟨ao,co,rfl,_,_,_⟩:=id qf;have Hv:=Qh qf;have Hg:=Qh hg;have UD:=hg.num;have Jb:=hg.az;have agH:=hg.wN;have kN:=hg.aV;have hpv:=hg.bq;have Oj:=Qh (fun k=>Xpn hg k);have CP:=yE (n:=s.num) (by omega) (by omega);have I4:=yE (n:=s.az) (by omega) (by omega);have xN:=tq s.bq (by omega);have ER:=BG s.aV.length (by omega);have yT:=Ia s.aV;have yD:=tq (dA s.aV) (by omega);have hm6:=BG s.aB.length (by omega);have H1:=Qh (fun w hw=>G8 I hI s.num (by omega) (by omega) w hw);have H2:=Qh (fun w hw=>G8 I hI s.az (by omega) (by omega) w hw);have H3:=Qh (fun w hw=>GZ I hI s.bq (by omega) w hw);have H4:=Qh (fun w hw=>JL I hI s.aV.length (by omega) w hw);have H5:=Qh (fun b w hc hb=>RI b s.aV (by omega) w hc hb);have H6:=Qh (fun w hw=>GZ I hI (dA s.aV) (by omega) w hw);have H7:=Qh (fun w hw=>JL I hI s.aB.length (by omega) w hw);have Hh:=Qh (show dZ s.num++dZ s.az++dL s.bq++(dZ s.aV.length++dL (dA s.aV)++dZ s.aB.length)=mo s 0 by
  rw[mo,List.take_zero];simp[ny])
 clear qf hg UD Jb;generalize dZ s.num=p1 at CP H1 Hh;generalize dZ s.az=p2 at I4 H2 Hh;generalize dL s.bq=p3 at xN H3 Hh;generalize dZ (s.aV.length:Int)=p4 at ER H4 Hh;generalize dL (dA s.aV)=p6 at yD H6 Hh;generalize dA s.aV=sm at yT yD H5 H6;generalize dZ (s.aB.length:Int)=p7 at hm6 H7 Hh;obtain⟨T,hT⟩:∃T,dA (jY s)=T:=⟨_,rfl⟩;rw[hT];have HT:=Qh hT;clear hT;obtain⟨w1,lZ⟩:∃w1,w.alloc (.cells #[.int .i64 s.num,.int .i64 s.az,S s.bq,.slice ao s.aB.length co,S s.aV,S s.sl] 76)=w1:=⟨_,rfl⟩;have lX:=Qh (show jD w1 w.heap.size s (.slice ao s.aB.length co) by rw[←lZ];exact Ku rfl (Qb _ _));have aS:Ok I w1:=by rw[←lZ];exact hw.alloc _
 have aO:Below w.heap.size w w1:=by rw[←lZ];exact(Qb w.heap.size w).alloc (Qn _) _
 have kH:Lib.IsBuilder 203 5 w1.heap.size w1.heap.size (Lib.byteCells []) (w1.alloc (.cells #[.pointer none,.slice none 0 0] 203)):=Lib.fresh_isBuilder _ _ w1;have KG:w1.heap.size=w.heap.size+1:=by rw[←lZ];simp
 have bW:w.heap.size<w1.heap.size:=by omega
 have lU:∀b,w1.heap.size≤b→I b=none:=fun b hb=>aS.fresh hb;have vM:=Qh (jD.past lX.q (.cells #[.pointer none,.slice none 0 0] 203));have kw:Ok I (w1.alloc (.cells #[.pointer none,.slice none 0 0] 203)):=aS.alloc _;go_enter Tryz.func104,Tryz.ntmps104
 go_wp2_with fail
 rw[←KG];clear KG;obtain⟨c0,c1,c2,c3,c4,c5⟩:=vM.q;have e0:=cell_regrown c0;have e1:=cell_regrown c1;have e2:=cell_regrown c2;clear c0 c1 c2 c3 c4 c5 lX lZ;refine Pw 11 (by kernel_rfl) (by kernel_rfl) ?_;simp only[List.take_succ_cons,List.take_zero,List.drop_succ_cons,List.drop_zero];repeat(go_big_quiet_step ((with_reducible first|exact Calls.regrown_of (H1.q _ (kw.below (Qn _) (below_regrown _ _ _)))|exact Calls.regrown_of (H2.q _ (kw.below (Qn _) (below_regrown _ _ _)))|exact Calls.regrown_of (H3.q _ (kw.below (Qn _) (below_regrown _ _ _))))))
 refine wpQuiet_nil ?_;intro w2 dD;have aP:Below ((w1.alloc (.cells #[.pointer none,.slice none 0 0] 203))).heap.size ((w1.alloc (.cells #[.pointer none,.slice none 0 0] 203))) w2:=by
  obtain⟨pq,rfl⟩:=dD;exact below_regrown _ _ _
 clear dD;have jK:=zk kH aP;have bC:Ok I w2:=kw.below (Qn _) aP;have qw:=Qh (vM.q.aX aP);have bS:Below w.heap.size w w2:=(aO.alloc (by have:=aO.size;omega) (.cells #[.pointer none,.slice none 0 0] 203)).trans (aP.mono (by simp;omega));have fw:w1.heap.size≤w2.heap.size:=by have:=aP.size;simp at this;omega
 clear e0 e1 e2 aP vM kH aS kw aO H1 H2 H3;go_wp2_with fail
 refine(Tryz.Builder_WriteString w1.heap.size w1.heap.size _ _ _ jK (by rw[ByteArray.size_mk',List.size_toArray];simp[Lib.byteCells];omega) (by omega)).mono ?_;rintro e3 w3 ⟨rfl,Ff,fu⟩;have mW:=Ff.lt;have Fg:=Qh (Kq (z:=p1++p2++p3) Ff (by simp));have il:Ok I w3:=bC.of_block fun b c hb=>fu.block b (Nat.lt_of_not_le fun h=>by rw[lU b h]at hb;cases hb);have yS:=Qh (qw.q.far fu bW);have mR:=bS.trans (fu.mono (Nat.le_of_lt bW));clear jK Ff fu bS bC qw fw;obtain⟨c0,c1,c2,c3,c4,c5⟩:=yS.q;go_wp2_with fail
 obtain⟨bl,yl⟩:∃bl,w1.heap.size=bl:=⟨_,rfl⟩;obtain⟨u,hu⟩:∃u,p4++(p6++p7)=u:=⟨_,rfl⟩;have d46:¬9223372036854775807<p4.length+p6.length:=by omega
 have d51:¬9223372036854775807<p4.length+p6.length+p7.length:=by omega
 have YV:u.length=p4.length+p6.length+p7.length:=by rw[←hu];simp;omega
 rw[List.append_assoc p4,hu]at Hh;rw[yl]at Fg lU bW mW ⊢;refine tK (X:=Nat×Nat) (Oi w.heap.size s.aV p4 sm p6 p7 u ao s.aB.length co) (sD w3 15 6 100 [(0,S s.aV)] [] (fun w8=>Lib.IsBuilder 203 5 bl bl (Lib.byteCells (mo s 0)) w8∧bl<w8.heap.size∧ ∃w7,Below w3.heap.size w3 w7∧Below bl w7 w8)) (by kernel_rfl) (by kernel_rfl) ?_ ?_ ?_
 ·exact⟨(0,0),sD.start _ _⟩
 ·rintro x s' a' w' i cu bU ha hC hi;obtain⟨aJ,oi,dN,aA⟩:=mem_ready.1 hi;rcases i with _|_|_|_|_|_|_|_|_|_|_|_|_|_|_|_|i
  rotate_left 16
  ·simp at dN
  all_goals
   have bY:=dN;simp at dN;subst dN;simp[Region.binds]at aA
  ·have e1:a'.tmps[1]?.getD undef= .pointer (some ⟨w.heap.size,0,none⟩):=lT ha (by simp);have hl:s'.getD 15 false=false:=gK bU [14,9,3,2,1,0] (by kernel_rfl) (by rfl) aJ;refine wpOp_step bY (fun K' hK=> ?_);rw[if_pos (by rfl)];unfold Oper.wp;simp[go_sem,e1,Oper.upon];exact hK _ _ ⟨x,dF (d:=some 20) (v:=(.pointer (some ⟨w.heap.size,4,none⟩))) mr ha rfl aJ,hC.step hl (Qb _ _) (by decide) (by decide) (by decide)⟩
  ·have e20:a'.tmps[20]?.getD undef= .pointer (some ⟨w.heap.size,4,none⟩):=fD (i:=0) mr ha rfl (by first|simpa using aA|simpa using aA.1) (by simp);have RL:=bI (hC.eD (gK bU [14,9,3,2,1] (by kernel_rfl) (by rfl) aJ)) c4;have hl:s'.getD 15 false=false:=gK bU [14,9,3,2,1] (by kernel_rfl) (by rfl) aJ;refine wpOp_step bY (fun K' hK=> ?_);rw[if_pos (by rfl)];unfold Oper.wp;simp[go_sem,e20,RL,Oper.upon];exact hK _ _ ⟨x,dF (d:=some 21) (v:=(S s.aV)) mr ha rfl aJ,hC.step hl (Qb _ _) (by decide) (by decide) (by decide)⟩
  ·have e21:a'.tmps[21]?.getD undef=S s.aV:=fD (i:=1) mr ha rfl (by first|simpa using aA|simpa using aA.1) (by simp);have hl:s'.getD 15 false=false:=gK bU [14,9,3,2] (by kernel_rfl) (by rfl) aJ;refine wpOp_step bY (fun K' hK=> ?_);rw[if_pos (by rfl)];unfold Oper.wp;simp[go_sem,e21,Oper.upon];exact hK _ _ ⟨x,dF (d:=some 22) (v:=(.int .i64 (s.aV.length:Int))) mr ha rfl aJ,hC.step hl (Qb _ _) (by decide) (by decide) (by decide)⟩
  ·have e22:a'.tmps[22]?.getD undef= .int .i64 (s.aV.length:Int):=fD (i:=2) mr ha rfl (by first|simpa using aA|simpa using aA.1) (by simp);have hl:s'.getD 15 false=false:=gK bU [14,9,3] (by kernel_rfl) (by rfl) aJ;have nD:=il.below (Qn _) (hC.eD hl);refine wpOp_step bY (fun K' hK=> ?_);rw[if_pos (by rfl)];unfold Oper.wp;simp[go_sem,e22,Oper.upon];refine(H4.q w' nD).mono ?_;rintro r4 w4 ⟨rfl,bA⟩;exact hK _ _ ⟨x,dF (d:=some 23) (v:=(S p4)) mr ha rfl aJ,hC.step hl bA (by decide) (by decide) (by decide)⟩
  ·have e1:a'.tmps[1]?.getD undef= .pointer (some ⟨w.heap.size,0,none⟩):=lT ha (by simp);have hl:s'.getD 15 false=false:=gK bU [14,9,8,7,6,5,4] (by kernel_rfl) (by rfl) aJ;refine wpOp_step bY (fun K' hK=> ?_);rw[if_pos (by rfl)];unfold Oper.wp;simp[go_sem,e1,Oper.upon];exact hK _ _ ⟨x,dF (d:=some 24) (v:=(.pointer (some ⟨w.heap.size,4,none⟩))) mr ha rfl aJ,hC.step hl (Qb _ _) (by decide) (by decide) (by decide)⟩
  ·have e24:a'.tmps[24]?.getD undef= .pointer (some ⟨w.heap.size,4,none⟩):=fD (i:=4) mr ha rfl (by first|simpa using aA|simpa using aA.1) (by simp);have RL:=bI (hC.eD (gK bU [14,9,8,7,6,5] (by kernel_rfl) (by rfl) aJ)) c4;have hl:s'.getD 15 false=false:=gK bU [14,9,8,7,6,5] (by kernel_rfl) (by rfl) aJ;refine wpOp_step bY (fun K' hK=> ?_);rw[if_pos (by rfl)];unfold Oper.wp;simp[go_sem,e24,RL,Oper.upon];exact hK _ _ ⟨x,dF (d:=some 25) (v:=(S s.aV)) mr ha rfl aJ,hC.step hl (Qb _ _) (by decide) (by decide) (by decide)⟩
  ·have e25:a'.tmps[25]?.getD undef=S s.aV:=fD (i:=5) mr ha rfl (by first|simpa using aA|simpa using aA.1) (by simp);have hl:s'.getD 15 false=false:=gK bU [14,9,8,7,6] (by kernel_rfl) (by rfl) aJ;have ha:=ha.trans (Yf (L:=Oi w.heap.size s.aV p4 sm p6 p7 u ao s.aB.length co x) (M:=Oi w.heap.size s.aV p4 sm p6 p7 u ao s.aB.length co (w'.heap.size,x.2)) 6 rfl (fun j aZ=>by
    rcases j with _|_|_|_|_|_|_|j<;>first|rfl|(exact absurd rfl aZ)|simp) aJ)
   refine wpOp_step bY (fun K' hK=> ?_);rw[if_pos (by rfl)];unfold Oper.wp;simp[go_sem,e25,Oper.upon];refine hK _ _ ⟨(w'.heap.size,x.2),dF (d:=some 26) (v:= .slice (some ⟨w'.heap.size,0,none⟩) 1 1) mr ha rfl aJ,hC.Yg hl ((Qb _ _).alloc (Qn _) _) (by decide) (by decide) (fun p hp=> ?_)⟩;simp at hp;subst hp;simp
  ·have e26:a'.tmps[26]?.getD undef= .slice (some ⟨x.1,0,none⟩) 1 1:=fD (i:=6) mr ha rfl (by first|simpa using aA|simpa using aA.1) (by simp);have Ai:=hC.f1 (by first|simpa using aA|simpa using aA.1) (gK bU [14,9,8,7] (by kernel_rfl) (by rfl) aJ) _ (List.mem_singleton.2 rfl);have hl:s'.getD 15 false=false:=gK bU [14,9,8,7] (by kernel_rfl) (by rfl) aJ;have nD:=il.below (Qn _) (hC.eD hl);refine wpOp_step bY (fun K' hK=> ?_);rw[if_pos (by rfl)];unfold Oper.wp;simp[go_sem,e26,Oper.upon];refine(H5.q x.1 w' Ai (block_lt_of_cell Ai)).mono ?_;rintro r4 w4 ⟨rfl,bA⟩;exact hK _ _ ⟨x,dF (d:=some 27) (v:=(S sm)) mr ha rfl aJ,hC.step hl bA (by decide) (by decide) (by decide)⟩
  ·have e27:a'.tmps[27]?.getD undef=S sm:=fD (i:=7) mr ha rfl (by first|simpa using aA|simpa using aA.1) (by simp);have hl:s'.getD 15 false=false:=gK bU [14,9,8] (by kernel_rfl) (by rfl) aJ;have nD:=il.below (Qn _) (hC.eD hl);refine wpOp_step bY (fun K' hK=> ?_);rw[if_pos (by rfl)];unfold Oper.wp;simp[go_sem,e27,Oper.upon];refine(H6.q w' nD).mono ?_;rintro r4 w4 ⟨rfl,bA⟩;exact hK _ _ ⟨x,dF (d:=some 28) (v:=(S p6)) mr ha rfl aJ,hC.step hl bA (by decide) (by decide) (by decide)⟩
  ·have e23:a'.tmps[23]?.getD undef=S p4:=fD (i:=3) mr ha rfl (by simpa using aA.1) (by simp);have e28:a'.tmps[28]?.getD undef=S p6:=fD (i:=8) mr ha rfl (by first|simpa using aA.2|simpa using aA.2.1) (by simp);have hl:s'.getD 15 false=false:=gK bU [14,9] (by kernel_rfl) (by rfl) aJ;refine wpOp_step bY (fun K' hK=> ?_);rw[if_pos (by rfl)];unfold Oper.wp;simp[go_sem,e23,e28,d46,Oper.upon];exact hK _ _ ⟨x,dF (d:=some 29) (v:=(S (p4++p6))) mr ha rfl aJ,hC.step hl (Qb _ _) (by decide) (by decide) (by decide)⟩
  ·have e1:a'.tmps[1]?.getD undef= .pointer (some ⟨w.heap.size,0,none⟩):=lT ha (by simp);have hl:s'.getD 15 false=false:=gK bU [14,13,12,11,10] (by kernel_rfl) (by rfl) aJ;refine wpOp_step bY (fun K' hK=> ?_);rw[if_pos (by rfl)];unfold Oper.wp;simp[go_sem,e1,Oper.upon];exact hK _ _ ⟨x,dF (d:=some 30) (v:=(.pointer (some ⟨w.heap.size,3,none⟩))) mr ha rfl aJ,hC.step hl (Qb _ _) (by decide) (by decide) (by decide)⟩
  ·have e30:a'.tmps[30]?.getD undef= .pointer (some ⟨w.heap.size,3,none⟩):=fD (i:=10) mr ha rfl (by first|simpa using aA|simpa using aA.1) (by simp);have c3':=bI (hC.eD (gK bU [14,13,12,11] (by kernel_rfl) (by rfl) aJ)) c3;have hl:s'.getD 15 false=false:=gK bU [14,13,12,11] (by kernel_rfl) (by rfl) aJ;refine wpOp_step bY (fun K' hK=> ?_);rw[if_pos (by rfl)];unfold Oper.wp;simp[go_sem,e30,c3',Oper.upon];exact hK _ _ ⟨x,dF (d:=some 31) (v:=(.slice ao s.aB.length co)) mr ha rfl aJ,hC.step hl (Qb _ _) (by decide) (by decide) (by decide)⟩
  ·have e31:a'.tmps[31]?.getD undef= .slice ao s.aB.length co:=fD (i:=11) mr ha rfl (by first|simpa using aA|simpa using aA.1) (by simp);have hl:s'.getD 15 false=false:=gK bU [14,13,12] (by kernel_rfl) (by rfl) aJ;refine wpOp_step bY (fun K' hK=> ?_);rw[if_pos (by rfl)];unfold Oper.wp;simp[go_sem,e31,Oper.upon];exact hK _ _ ⟨x,dF (d:=some 32) (v:=(.int .i64 (s.aB.length:Int))) mr ha rfl aJ,hC.step hl (Qb _ _) (by decide) (by decide) (by decide)⟩
  ·have e32:a'.tmps[32]?.getD undef= .int .i64 (s.aB.length:Int):=fD (i:=12) mr ha rfl (by first|simpa using aA|simpa using aA.1) (by simp);have hl:s'.getD 15 false=false:=gK bU [14,13] (by kernel_rfl) (by rfl) aJ;have nD:=il.below (Qn _) (hC.eD hl);refine wpOp_step bY (fun K' hK=> ?_);rw[if_pos (by rfl)];unfold Oper.wp;simp[go_sem,e32,Oper.upon];refine(H7.q w' nD).mono ?_;rintro r4 w4 ⟨rfl,bA⟩;exact hK _ _ ⟨x,dF (d:=some 33) (v:=(S p7)) mr ha rfl aJ,hC.step hl bA (by decide) (by decide) (by decide)⟩
  ·have e29:a'.tmps[29]?.getD undef=S (p4++p6):=fD (i:=9) mr ha rfl (by simpa using aA.1) (by simp);have e33:a'.tmps[33]?.getD undef=S p7:=fD (i:=13) mr ha rfl (by first|simpa using aA.2|simpa using aA.2.1) (by simp);have hl:s'.getD 15 false=false:=gK bU [14] (by kernel_rfl) (by rfl) aJ;refine wpOp_step bY (fun K' hK=> ?_);rw[if_pos (by rfl)];unfold Oper.wp;simp[go_sem,e29,e33,d51,hu,Oper.upon];exact hK _ _ ⟨x,dF (d:=some 34) (v:=(S u)) mr ha rfl aJ,hC.step hl (Qb _ _) (by decide) (by decide) (by decide)⟩
  ·have e34:a'.tmps[34]?.getD undef=S u:=fD (i:=14) mr ha rfl (by first|simpa using aA|simpa using aA.1) (by simp);have e3x:a'.tmps[3]?.getD undef= .pointer (some ⟨bl,0,none⟩):=lT ha (by simp);have hl:s'.getD 15 false=false:=jl aJ;have oZ:=hC.eD hl;refine wpOp_step bY (fun K' hK=> ?_);rw[if_pos (by rfl)];unfold Oper.wp;simp[go_sem,e34,e3x,Oper.upon];refine(Tryz.Builder_WriteString bl bl _ _ _ (zk Fg.q oZ) (by rw[ByteArray.size_mk',List.size_toArray];simp[Lib.byteCells];omega) (by have:=oZ.size;omega)).mono ?_;rintro r8 w8 ⟨rfl,zM,oQ⟩;refine hK _ _ ⟨x,dF (d:=some 35) (v:= .tuple #[.int .i64 (u.length:Int),.nilIface]) mr ha rfl aJ,sD.end' aJ ⟨Kq (z:=mo s 0) zM Hh.q,zM.lt,w',oZ,oQ⟩⟩
 ·rintro x s' a' w8 eX ha hC;obtain⟨zM,BU,w7,pV,oQ⟩:=hC.fin (eX 15 (by decide));rw[su _ _ _ _ (fun i hi=>by rw[Nat.zero_add];exact eX i (by simpa using hi))]at ha;subst ha;simp only[df,Act.put];subst yl;have KH:=Qh zM;have iC:Ok I w8:=(il.below (Qn _) pV).of_block fun b c hb=>oQ.block b (Nat.lt_of_not_le fun h=>by rw[lU b h]at hb;cases hb);have RN:=Qh ((yS.q.aX pV).far oQ bW);have KI:=(mR.trans (pV.mono mR.size)).trans (oQ.mono (Nat.le_of_lt bW));clear hC eX zM oQ pV d46 d51 YV hu il yS mR Fg c0 c1 c2 c3 c4 c5 H4 H5 H6 H7 mW;obtain⟨c0,c1,c2,c3,c4,c5⟩:=RN.q;go_wp2_with fail
  clear c0 c1 c2 c3 c4 c5;go_loopw [39] (fun RO wr=> ∃k:Nat,k≤s.aB.length∧RO= .int .i64 k∧Lib.IsBuilder 203 5 w1.heap.size w1.heap.size (Lib.byteCells (mo s k)) wr∧Ok I wr∧jD wr w.heap.size s (.slice ao s.aB.length co)∧Below w.heap.size w wr∧w1.heap.size<wr.heap.size) (fun i _=>s.aB.length-(intOf i).toNat)
  case atStart=>exact⟨0,Nat.zero_le _,rfl,KH.q,iC,RN.q,KI,BU⟩
  case round=>
   clear KH RN KI iC BU;obtain⟨k,hk,rfl,oh,gZ,AO,hb,cu⟩:=hrel;have oU:=Qh oh;have H9:=Qh AO;have xw:=Oj.q k;clear oh AO;by_cases hlt:k<s.aB.length
   ·obtain⟨x,vxa,vxx,b,off,cap',dz,dC,⟨x0,x1,x2,x3,x4,x5,x6⟩,h1,h2⟩:=uT Hv.q gZ k hlt;cases dC;obtain⟨xa,xc,rfl,_,_,_⟩:=id h1;obtain⟨xx,xd,rfl,_,_,_⟩:=id h2;have yu:x∈s.aB:=by rw[←dz];exact List.getElem_mem hlt
    have YW:=Hg.q.wf x yu;have UX:=Hg.q.aD x yu;have uP:=Hg.q.err x yu;have ML:=NQ uP;have IR:=ML.ag;have hxt:=ML.av;have bT:=Qh (Xnd hlt dz);have Nb:Ok I (wr.alloc (.cells #[.int .i64 x.aj,S x.ag,.slice xa x.au.length xc,S x.av,.int .i64 x.size,S x.aI,.slice xx x.aD.length xd] 81)):=gZ.alloc _;have RP:=Qh (fun w hw=>Xoh I hI x _ _ h1 h2 YW (by omega) (by omega) ML uP (by omega) w hw);have Al:=XY ML (show x.aD.length≤1000 by omega);clear dz h1 h2 yu uP YW ML;generalize uC x=y at bT RP Al;generalize mo s k=u at bT oU xw;go_wp2_with fail
    refine(RP.q _ Nb).mono ?_;rintro e1 w4 ⟨rfl,bA⟩;have pV:Below wr.heap.size wr w4:=((Qb _ _).alloc (Qn _) (.cells #[.int .i64 x.aj,S x.ag,.slice xa x.au.length xc,S x.av,.int .i64 x.size,S x.aI,.slice xx x.aD.length xd] 81)).trans (bA.mono (by simp));have KJ:=zk oU.q pV;have cK:Ok I w4:=gZ.below (Qn _) pV;have rD:=Qh (H9.q.aX pV);have kU:=pV.size;have eu:=hb.trans (pV.mono hb.size);clear bA pV oU H9 x0 x1 x2 x3 x4 x5 x6 RP Nb;go_wp2_with fail
    refine(Tryz.Builder_WriteString w1.heap.size w1.heap.size _ _ _ KJ (by rw[ByteArray.size_mk',List.size_toArray];simp[Lib.byteCells];omega) (by omega)).mono ?_;rintro e5 w5 ⟨rfl,sF,dm⟩;have jR:=sF.lt;have BO:=Qh (Kq (z:=mo s (k+1)) sF bT.q.symm);have dR:Ok I w5:=cK.of_block fun b c hb=>dm.block b (Nat.lt_of_not_le fun h=>by rw[lU b h]at hb;cases hb);have qD:=Qh (rD.q.far dm bW);have dG:=eu.trans (dm.mono (Nat.le_of_lt bW));clear KJ sF dm eu cK rD;go_wp2;go_roundw;case rel=>exact⟨k+1,by omega,by go_num,BO.q,dR,qD.q,dG,jR⟩
    case measure=>simp[intOf];omega
   ·have Hn:=Qh (Xpm s (k:=k) (by omega));rw[Hn.q]at oU xw;obtain⟨u,hu⟩:∃u,jY s=u:=⟨_,rfl⟩;rw[hu]at oU xw;have Hu:=Qh (show T=dA u by rw[←HT.q,hu]);clear hu Hn;go_wp2_with fail
    refine(Tryz.Builder_String_any w1.heap.size w1.heap.size _ _ oU.q (by omega)).mono ?_;rintro e3 w5 ⟨rfl,dm⟩;have dG:=hb.trans (dm.mono (Nat.le_of_lt bW));have H6:=Qh (RI w5.heap.size u (by omega) (w5.alloc (.cells #[S u] 9)) (by simp) (by simp));go_wp2_with fail
    refine H6.q.mono ?_;rintro e6 w6 ⟨rfl,fC⟩;go_wp2;go_ret;rw[Hu.q];exact⟨rfl,(dG.alloc dG.size _).trans (fC.mono (by have:=dG.size;simp;omega))⟩
def four(l:List Int)(a b c d:Nat)(va vb vc vd:Int):List Int:=(((l.set a va).set b vb).set c vc).set d vd
structure Apart (n a b c d:Nat):Prop where
 la:a<n
 lb:b<n
 lc:c<n
 ld:d<n
 ab:a≠b
 ac:a≠c
 ad:a≠d
 bc:b≠c
 bd:b≠d
 cd:c≠d
section
variable {l:List Int} {a b c d:Nat} {va vb vc vd:Int}
end
structure agK (w:World) (t:TypeId) (l:List Int) (a b c d:Nat) (va vb vc vd:Int) (X:World):Prop where
 rX:X.heap[w.heap.size]?=some (.cells (row (four l a b c d va vb vc vd)) t (0,0))
 zero:X.heap[w.heap.size+1]?=some (.cells (row (List.replicate 16 0)) t (0,0))
 below:Below w.heap.size w X
section
variable {w X X':World} {t:TypeId} {l:List Int} {a b c d:Nat} {va vb vc vd:Int}
end
