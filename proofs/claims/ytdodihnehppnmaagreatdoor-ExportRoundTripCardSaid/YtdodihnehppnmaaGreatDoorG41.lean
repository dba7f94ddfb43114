/- Lemmas for the claim's theorem;conditions: as each says. -/
import Derived.Calls
import Derived.Below
import Derived.Sort.Grow
import Derived.Deep.Draws
import Derived.Test.YtdodihnehppnmaaGreatDoorProg
import Derived.Shelf.SlSortCmp.Whole1
import Derived.Shelf.SlSortCmp.NoneTotal
import Derived.Test.YtdodihnehppnmaaGreatDoorG40
set_option maxRecDepth 100000
set_option linter.all false
namespace Go.Proofs.YtdodihnehppnmaaGreatDoor
open Go
variable{w:World}{p:Program}{w':World}{α:Type}{v:Value}{m m':Machine}{n:Nat}{b:Bool}{l:List Addr}{x:GStep}{var:Addr}{P:Program}{f:FuncId}{args:Array Value}
theorem Zl:∀(k:Ask α) (w:World),w.drawn≤(w.ask k).2.drawn
 | .done a,w=>Nat.le_refl _
 | .ask what range k,w=>by
   unfold World.ask;simp only;split
   ·exact Zl (k 0) w
   ·exact Nat.le_trans (Nat.le_succ _) (Zl (k _) {w with drawn:=w.drawn+1})
theorem Xlv(w:World)(c:Sys):w.drawn≤(w.sys c).2.drawn:=by
 unfold World.sys;have h:=Zl (Kernel.perform c w.os) w;split
 ·exact Nat.le_refl _
 ·rename_i r os w' _ e;rw[e]at h;exact h
theorem Xm7(w:World)(a:Addr)(n:Nat):(w.freeze a n).drawn=w.drawn:=by
 unfold World.freeze;split<;>rfl
theorem Xhv{at_ k:Addr}{u:TypeId}(h:w.viewStore p at_ u k v b= .ok (w',l)):w'.drawn=w.drawn:=by
 unfold World.viewStore at h;simp only[bind,Except.bind,pure,Except.pure]at h;repeat' split at h
 all_goals first|(cases h;done)|(injection h with h;injection h with h1 h2;rw[←h1])
theorem Xjo{a:Addr}(h:w.farStore p a v b= .ok (w',l)):w'.drawn=w.drawn:=by
 unfold World.farStore at h;split at h
 ·split at h
  ·rename_i r hr;injection h with h
   subst h;exact Xhv hr
  ·cases h
 ·cases h
theorem Xkr(w:World)(a:Addr)(v:Value):(w.setCell a v).drawn=w.drawn:=by
 unfold World.setCell;rfl
def Result.wd{α:Type}:Result α→Nat
 | .ok _ w=>w.drawn
 | .halt _ w=>w.drawn
theorem Rn(p:Program):∀(m:Sem α) (w:World),w.drawn≤Result.wd (m.run p w):=by
 intro m;induction m with
 |pure a=>exact fun w=>Nat.le_refl _
 |load m a k ih=>
  intro w;unfold Sem.run;split
  ·exact ih _ _
  ·split
   ·exact ih _ _
   ·exact Nat.le_refl _
 |store m a v k ih=>
  intro w;have key:w.drawn≤Result.wd (match w.cell? a with
   | some _=> if w.frozen? a then Result.halt (.unsupported (.unsafePointer "a write to bytes that a string shares")) w else k.run p (w.setCell a v)
   |none=>match w.farStore p a v (m== .atomic)with
    | .ok (w,_)=>k.run p w
    | .error h=> .halt h w):=by
   split
   ·split
    ·exact Nat.le_refl _
    ·exact Nat.le_trans (Nat.le_of_eq (Xkr w a v).symm) (ih _)
   ·split
    ·rename_i w' l hw;exact Nat.le_trans (Nat.le_of_eq (Xjo hw).symm) (ih _)
    ·exact Nat.le_refl _
  cases v<;>first|exact key|exact Nat.le_refl _
 |new o k ih=>exact fun w=>ih _ {w with heap:=w.heap.push o}
 |shape r k ih=>exact fun w=>ih _ w
 |freeze a n k ih=>
  intro w;exact Nat.le_trans (Nat.le_of_eq (Xm7 w a n).symm) (ih (w.freeze a n))
 |frozen a k ih=>exact fun w=>ih _ w
 |getObj r k ih=>
  intro w;unfold Sem.run;split
  ·exact Nat.le_refl _
  ·exact ih _ _
  ·exact Nat.le_refl _
 |setObj r o k ih=>
  intro w;unfold Sem.run;split
  ·exact Nat.le_refl _
  ·exact ih {w with heap:=w.heap.setIfInBounds r o}
  ·exact Nat.le_refl _
 |choose q k ih=>
  intro w;unfold Sem.run;split
  ·exact ih _ _
  ·exact Nat.le_trans (Nat.le_succ _) (ih _ {w with drawn:=w.drawn+1})
 |sys c k ih=>exact fun w=>Nat.le_trans (Xlv w c) (ih _ _)
 |program k ih=>exact fun w=>ih _ w
 |mark m k ih=>exact fun w=>ih w
 |halt h=>exact fun w=>Nat.le_refl _
theorem oO{m:Sem α}{a:α}(h:m.run p w= .ok a w'):w.drawn≤w'.drawn:=by
 have:=Rn p m w;rw[h]at this;exact this
theorem run_halt{m:Sem α}{x:Halt}(h:m.run p w= .halt x w'):w.drawn≤w'.drawn:=by
 have:=Rn p m w;rw[h]at this;exact this
def GStep.wd:GStep→Nat
 | .go _ w _=>w.drawn
 | .comm _ _ _ _ w _=>w.drawn
 | .spawn _ _ w _=>w.drawn
 | .count _ w _=>w.drawn
 | .timer _ _ w _=>w.drawn
 | .alone _ _ w _=>w.drawn
 | .newcoro _ _ _ w _=>w.drawn
 | .coroswitch _ _ _ w _=>w.drawn
 | .collect _ w _=>w.drawn
 | .watch _ w _=>w.drawn
 | .ended _ w _=>w.drawn
theorem Ev(es:Array Event)(g:GStep):GStep.wd (g.after es)=GStep.wd g:=by cases g<;>rfl
theorem Xrv(w:World)(fd:Nat)(text:ByteArray)(o:Outcome):w.drawn≤GStep.wd (endWith w fd text o):=by
 unfold endWith;have h:=Xlv w (.write fd text);simp only;split
 ·rename_i n w' e;rw[e]at h;split<;>exact h
 ·rename_i n w' e;rw[e]at h;exact h
 ·rename_i n w' _ _ e;rw[e]at h;exact h
theorem Xfa(p:Program)(fr:Frame)(v:Value)(w:World):GStep.wd (endPrinting p fr v w)=w.drawn:=by
 unfold endPrinting;simp only;split<;>rfl
theorem Xiz(p:Program)(fr:Frame)(cs:List Frame)(dy:Option Dying)(m:String)(w:World):w.drawn≤GStep.wd (endFatal p fr cs dy m w):=by
 unfold endFatal;simp only;split
 ·rename_i e;exact oO e
 ·rename_i e;exact run_halt e
 ·rename_i e;exact run_halt e
theorem Xqx(p:Program)(fr:Frame)(d:Dying)(f:Fatal)(w:World):w.drawn≤GStep.wd (writeOn p fr d f w):=by
 unfold writeOn;simp only[Sem.runT_eq];split
 ·exact Nat.le_refl _
 ·split
  ·rename_i e;injection e with e _;exact oO e
  ·rename_i e;injection e with e _;exact run_halt e
  ·rename_i e;injection e with e _;exact run_halt e
  ·rename_i e;injection e with e _;exact run_halt e
theorem X0p(p:Program)(fr:Frame)(d:Dying)(w:World):w.drawn≤GStep.wd (die p fr d w):=by
 unfold die;split
 ·exact Xqx ..
 ·split
  ·split
   ·exact Nat.le_refl _
   ·exact Xrv ..
  ·simp only[Sem.runT_eq];split
   ·exact Nat.le_refl _
   ·split
    ·rename_i e;exact oO e
    ·rename_i e;exact run_halt e
   ·rw[Ev];split
    ·rename_i e;exact oO e
    ·rename_i e;exact oO e
    ·rename_i e;exact run_halt e
    ·rename_i e;rw[Xfa];exact run_halt e
    ·exact Nat.le_refl _
   ·exact Nat.le_refl _
theorem Uy(p:Program)(main:Bool)(fr:Frame)(cs:List Frame)(dy:Option Dying)(v:Value)(w:World):GStep.wd (doReturn p main fr cs dy v w)=w.drawn:=by
 unfold doReturn;repeat' split
 all_goals rfl
theorem Xxe(p:Program)(fr:Frame)(cs:List Frame)(dy:Option Dying)(g:Nat)(w:World):w.drawn≤GStep.wd (early p fr cs dy g w):=by
 unfold early;have hn:∀w':World,GStep.wd (match w'.heap[g]? with
  |some (.pending c elem)=> .go {frame:=fr,callers:=cs,status:= .running,dying:=dy} {w' with heap:=w'.heap.setIfInBounds g (.cells c elem)}
  | _=> .ended (.stuck "early: the variable does not wait" (fr.pos p)) w')=w'.drawn :=by
  intro w';split<;>rfl
 simp only;repeat' split
 all_goals first
  |exact Nat.le_refl _
  |(rename_i e _ _ _ _;exact oO e)
  |(rename_i e _ _ _;exact oO e)
  |(rename_i e _ _;exact oO e)
  |(rename_i e _;exact oO e)
  |(rename_i e;exact oO e)
  |(rename_i e;exact run_halt e)
  |(have h:=Rn p (choose (Question.early g)) w
    simp_all[Result.wd,GStep.wd])
theorem Xx7{c:Prop}[Decidable c]{y:GStep}(hx:n≤GStep.wd x)(hy:n≤GStep.wd y):n≤GStep.wd (if c then x else y):=by
 split
 ·exact hx
 ·exact hy
theorem Xi8(p:Program)(fr:Frame)(cs:List Frame)(dy:Option Dying)(d:Deferred)(w:World):w.drawn≤GStep.wd (callDeferred p fr cs dy d w):=by
 unfold callDeferred;simp only[Sem.runT_eq];refine Xx7 ?_ ?_
 ·exact Nat.le_refl _
 ·rw[Ev];have hk:=Rn p (invoke d.target d.args) w;generalize(invoke d.target d.args).run p w=r at hk;cases r with
  |ok n w'=>
   have hk:w.drawn≤w'.drawn:=hk
   cases n<;>first
    |exact hk
    |(rename_i b _;cases b<;>exact hk)
    |(rename_i _ b;cases b<;>exact hk)
    |(simp only;split<;>exact hk)
  |halt x w'=>
   have hk:w.drawn≤w'.drawn:=hk
   cases x<;>first
    |exact hk
    |exact Nat.le_trans hk (Xiz ..)
theorem Xsa(p:Program)(main:Bool)(fr:Frame)(cs:List Frame)(dy:Option Dying)(w:World):w.drawn≤GStep.wd (unwind p main fr cs dy w):=by
 unfold unwind;simp only[Sem.runT_eq];split
 ·rw[Ev];split
  ·rename_i e;exact oO e
  ·rename_i e;exact run_halt e
 ·exact Xi8 ..
 ·split
  ·exact Nat.le_refl _
  ·split
   ·exact Nat.le_refl _
   ·split
    ·exact Nat.le_refl _
    ·split
     ·split
      ·exact Nat.le_refl _
      ·split
       ·rename_i e;exact oO e
       ·rename_i e;exact run_halt e
       ·rename_i e;exact run_halt e
     ·split
      ·rw[Xfa];exact Nat.le_refl _
      ·exact Nat.le_refl _
  ·split
   ·rw[Uy];exact Nat.le_refl _
   ·rw[Ev];split
    ·rename_i e;rw[Uy];exact oO e
    ·rename_i e;exact run_halt e
    ·rename_i e;exact run_halt e
theorem Uz(p:Program)(l:Bool)(fr:Frame)(cs:List Frame)(dy:Option Dying)(s:Sem Next)(w:World):w.drawn≤GStep.wd (stepG.apply p l fr cs dy s w):=by
 unfold stepG.apply;have hl:(if l=true then s.runT p w #[]else(s.run p w,#[])).1=s.run p w:=by
  split
  ·rw[Sem.runT_eq]
  ·rfl
 generalize(if l=true then s.runT p w #[]else(s.run p w,#[]))=x at hl;obtain⟨r,es⟩:=x;subst hl;simp only;rw[Ev];have hk:=Rn p s w;generalize s.run p w=r at hk;cases r with
 |ok n w'=>
  have hk:w.drawn≤w'.drawn:=hk
  cases n<;>first
   |exact hk
   |(rename_i b _;cases b<;>exact hk)
   |(simp only;split<;>exact hk)
   |(simp only;refine Xx7 ?_ ?_<;>exact hk)
 |halt x w'=>
  have hk:w.drawn≤w'.drawn:=hk
  cases x<;>first
   |exact hk
   |exact Nat.le_trans hk (Xiz ..)
   |(rename_i u;cases u<;>first|exact hk|exact Nat.le_trans hk (Xxe ..))
theorem Xyq(p:Program)(l:Bool)(fr:Frame)(cs:List Frame)(dy:Option Dying)(w:World):w.drawn≤GStep.wd (stepG.oper p l fr cs dy w):=by
 unfold stepG.oper;split
 ·exact Nat.le_refl _
 ·split<;>exact Uz ..
theorem Xze{o:Option α}{f:α→GStep}(hx:n≤GStep.wd x)(hf:∀k,n≤GStep.wd (f k)):n≤GStep.wd (o.elim x f):=by
 cases o with
 |none=>exact hx
 |some k=>exact hf k
theorem Xy0(p:Program)(main l:Bool)(fr:Frame)(cs:List Frame)(dy:Option Dying)(w:World):w.drawn≤GStep.wd (stepG.exec p main l fr cs dy w):=by
 unfold stepG.exec;simp only[Sem.runT_eq];repeat' split
 all_goals first
  |exact Nat.le_refl _
  |exact Uz ..
  |exact Xyq ..
  |(rename_i e;exact oO e)
  |(rename_i e;exact run_halt e)
  |(rename_i e;rw[Ev,Uy];exact oO e)
  |(rename_i e;rw[Ev];exact Nat.le_trans (oO e) (Uz ..))
  |(rename_i e;rw[Ev];exact oO e)
  |(rename_i e;rw[Ev];exact run_halt e)
  |(refine Xze ?_ (fun k=> ?_)<;>first
     |exact Nat.le_refl _
     |exact Uz ..
     |(rename_i e;rw[Ev,Uy];exact oO e)
     |(rename_i e;rw[Ev];exact run_halt e))
theorem Xvy(p:Program)(main:Bool)(g:Goroutine)(w:World)(l:Bool):w.drawn≤GStep.wd (stepG p main g w l):=by
 unfold stepG;split;split
 ·exact X0p ..
 ·exact Xy0 ..
 ·exact Xsa ..
def Stepped.wd:Stepped→Nat
 | .next m=>m.world.drawn
 | .ended _ w=>w.drawn
theorem Xfk{rest:Rest}{cases:Array CommCase}(h:waitingAt rest cases w=some w'):w'.drawn=w.drawn:=by
 unfold waitingAt at h;split at h
 ·split at h
  ·injection h with h;subst h;rfl
  ·cases h
 ·injection h with h;subst h;rfl
theorem Xjq(p:Program)(rest:Rest)(gs:Array Goroutine)(i:Nat)(g:Goroutine)(cases:Array CommCase)(b:Bool)(shape:CommShape)(w:World):w.drawn≤Stepped.wd (communicate p rest gs i g cases b shape w).1:=by
 unfold communicate;simp only;split
 ·exact Nat.le_refl _
 ·split
  ·split
   ·split
    ·rename_i e;show w.drawn≤World.drawn _;exact Nat.le_of_eq (Xfk e).symm
    ·exact Nat.le_refl _
   ·exact Nat.le_refl _
  ·split
   ·rename_i e;exact run_halt e
   ·rename_i e;have h1:=oO e;clear e;refine Nat.le_trans h1 ?_;clear h1;repeat' split
    all_goals first
     |exact Nat.le_refl _
     |(rename_i e;exact run_halt e)
     |(rename_i e;exact oO e)
     |(rename_i e _;exact oO e)
     |(rename_i e _ _;have h:=oO e;exact h)
     |(rename_i e _ _ _;have h:=oO e;exact h)
     |(rename_i e _;exact run_halt e)
     |(rename_i e _ _;exact run_halt e)
theorem Xtg(p:Program)(gs:Array Goroutine)(rest:Rest)(w:World):w.drawn≤Stepped.wd (look p gs rest w):=by
 unfold look;simp only;split
 ·split
  ·exact Nat.le_refl _
  ·split
   ·exact Nat.le_refl _
   ·split
    ·rename_i e;have h1:=oO e;clear e;exact h1
    ·rename_i e;exact run_halt e
    ·rename_i e;exact run_halt e
 ·exact Nat.le_refl _
theorem Xv1(p:Program)(m:Machine)(k:Nat):m.world.drawn≤Stepped.wd (serve p m k):=by
 unfold serve;simp only;repeat' split
 all_goals first
  |exact Nat.le_refl _
  |(simp only[Stepped.wd];grind [oO,run_halt,Xfk])
theorem Xp1{f:Nat→Timer→Value×Machine}(hf:∀k t,(f k t).2.world.drawn=m.world.drawn)(h:timerOp.named m var f= .ok (v,m')):m'.world.drawn=m.world.drawn:=by
 unfold timerOp.named at h;split at h
 ·injection h with h
  rw[←hf,h]
 ·cases h
theorem Xl4(m:Machine)(k:Nat)(t:Timer)(a b:Nat):(retime m k t a b).2.world.drawn=m.world.drawn:=by
 unfold retime;simp only;split
 ·unfold drain;split<;>rfl
 ·rfl
theorem Xs9(h:timerOp.opened m var=some m'):m'.world.drawn=m.world.drawn:=by
 unfold timerOp.opened at h;split at h
 ·split at h
  ·injection h with h;rw[←h]
  ·cases h
 ·injection h with h;rw[←h]
theorem Xq1{op:TimerOp}(h:timerOp m op= .ok (v,m')):m'.world.drawn=m.world.drawn:=by
 unfold timerOp at h;split at h
 ·split at h
  ·injection h with h;injection h with _ h;rw[←h];rfl
  ·split at h
   ·split at h
    ·cases h
    ·injection h with h;injection h with _ h;rw[←h]
   ·cases h
 ·exact Xp1 (fun k t=>Xl4 ..) h
 ·split at h
  ·rename_i e;exact Xp1 (fun k t=>(Xl4 ..).trans (Xs9 e)) h
  ·cases h
 ·injection h with h;injection h with _ h;rw[←h];rfl
theorem Xyf(p:Program)(m:Machine)(i:Nat)(l:Bool):m.world.drawn≤Stepped.wd (runT p m i l).1:=by
 unfold runT;simp only;have h:=Xvy p (i==0) (m.gs.swapAt! i {(default:Goroutine)with status:= .finished}).1 m.world l;generalize stepG p (i==0) (m.gs.swapAt! i {(default:Goroutine)with status:= .finished}).1 m.world l=s at h;cases s with
 |comm g cs b sh w es=>
  have h:m.world.drawn≤w.drawn:=h;exact Nat.le_trans h (Xjq ..)
 |collect g w es=>
  have h:m.world.drawn≤w.drawn:=h;exact Nat.le_trans h (Xtg ..)
 |count g w es=>
  have h:m.world.drawn≤w.drawn:=h;simp only;split<;>exact h
 |coroswitch g c ex w es=>
  have h:m.world.drawn≤w.drawn:=h;simp only;repeat' split
  all_goals first
   |exact h
   |(simp only[endThrow,dieOf]at*;simp_all[Stepped.wd])
 |timer g op w es=>
  have h:m.world.drawn≤w.drawn:=h;simp only;split
  ·rename_i e;exact Nat.le_trans h (Nat.le_of_eq (Xq1 e).symm)
  ·exact h
  ·exact h
  ·exact h
 |go g w es=>exact h
 |spawn g c w es=>exact h
 |alone g on w es=>exact h
 |newcoro g c d w es=>exact h
 |watch g w es=>exact h
 |ended o w es=>exact h
def Move.ge(n:Nat):Move→Prop
 | .goroutine m _=>n≤m.world.drawn
 | .machine (.next m) _=>n≤m.world.drawn
 | .machine (.ended _ _) _=>True
theorem Xju{s:Stepped}{ops:Array MemOp}(h:n≤Stepped.wd s):Move.ge n (.machine s ops):=by
 cases s with
 |next m=>exact h
 |ended o w=>exact True.intro
theorem Zm(p:Program)(m:Machine):Move.ge m.world.drawn (askOn p m):=by
 unfold askOn;extract_lets mono rs ds pick
 have hp:∀m':Machine,m.world.drawn≤m'.world.drawn→Move.ge m.world.drawn (pick m'):=by
  intro m' hm;simp only[pick];split
  ·exact True.intro
  ·rename_i k w e;have h1:=Nat.le_trans hm (oO e);split
   ·exact h1
   ·split
    ·exact True.intro
    ·rename_i e2;exact Nat.le_trans h1 (oO e2)
 clear_value pick rs ds mono
 split
 ·exact True.intro
 ·rename_i k w e;have h1:=oO e;extract_lets m2
  split
  ·exact Xju (Nat.le_trans h1 (Xv1 p m2 _))
  ·cases rs with
   |nil=>
    simp only;split
    ·exact h1
    ·split
     ·exact h1
     ·split<;>exact True.intro
   |cons r rs=>
    simp only;split
    ·exact hp m2 h1
    ·split
     ·exact True.intro
     ·rename_i e2;exact hp _ (Nat.le_trans h1 (oO e2))
     ·rename_i e2;have h2:=oO e2;exact Nat.le_trans h1 h2
     ·rename_i e2;have h2:=oO e2;exact hp _ (Nat.le_trans h1 h2)
theorem Move.ge.trans{k:Nat}{x:Move}(h:n≤k)(hx:Move.ge k x):Move.ge n x:=by
 cases x with
 |goroutine m i=>exact Nat.le_trans h hx
 |machine s ops=>cases s with
  |next m=>exact Nat.le_trans h hx
  |ended o w=>exact True.intro
theorem Xya(p:Program)(m:Machine):Move.ge m.world.drawn (ask p m):=by
 unfold ask;split
 ·split
  ·exact True.intro
  ·rename_i w e;have h1:=oO e;have h2:=Xtg p m.gs m.rest w;split
   ·rename_i m' e2;rw[e2]at h2;exact Move.ge.trans (Nat.le_trans h1 h2) (Zm p m')
   ·exact Xju (Nat.le_trans h1 h2)
  ·rename_i k w e _;exact Move.ge.trans (oO (by assumption)) (Zm p {m with world:=w})
 ·exact Zm p m
theorem Xyu(p:Program)(m:Machine):Move.ge m.world.drawn (move p m):=by
 unfold move;split
 ·split
  ·exact Nat.le_refl _
  ·exact True.intro
 ·split
  ·split
   ·exact Nat.le_refl _
   ·exact Xya p {m with rest:={m.rest with slice:=none}}
  ·exact Xya p m
theorem Xq3(h:step p m= .next m'):m.world.drawn≤m'.world.drawn:=by
 unfold step stepT at h;have hm:=Xyu p m;split at h
 ·rename_i m1 i e;rw[e]at hm;have h2:=Xyf p m1 i true;rw[h]at h2;exact Nat.le_trans hm h2
 ·rename_i s ops e;rw[e]at hm;have h:s= .next m':=h
  subst h;exact hm
theorem Xh1(h:Steps p m m'):m.world.drawn≤m'.world.drawn:=by
 obtain⟨n,hn⟩:=h;induction n generalizing m with
 |zero=>simp[runN]at hn;exact hn▸Nat.le_refl _
 |succ n ih=>
  simp only[runN]at hn;cases hs:step p m with
  |next m1=>rw[hs]at hn;exact Nat.le_trans (Xq3 hs) (ih hn)
  |ended o w=>rw[hs]at hn;simp at hn
theorem Xpe{R:Ending→World→Prop}(h:Calls P f args w R):
 Calls P f args w fun e w'=>R e w'∧(e≠ .outgrown→w.drawn≤w'.drawn):=by
 intro cs;obtain⟨e,w',fr,hr,hc,hf,hl⟩:=h cs;refine⟨e,w',fr,⟨hr,fun ne=> ?_⟩,hc,hf,hl⟩;cases e with
 |returned v=>exact Xh1 (p:=P) hc
 |panicked c=>exact Xh1 (p:=P) hc
 |outgrown=>exact absurd rfl ne
theorem Xk9(hb:Go.RowKit.Below w.heap.size w w')(hd:w.drawn≤w'.drawn):∃q os',w'=Go.Sort.grow (w.drewN q) os':=by
 refine⟨w'.drawn-w.drawn,w'.heap.extract w.heap.size w'.heap.size,?_⟩;obtain⟨h1,h2,h3,h4,h5⟩:=hb;have hh:w'.heap=w.heap++w'.heap.extract w.heap.size w'.heap.size:=by
  apply Array.ext_getElem?;intro k;rw[Array.getElem?_append];by_cases hk:k<w.heap.size
  ·rw[if_pos hk,h5 k hk]
  ·rw[if_neg hk,Array.getElem?_extract];split
   ·congr 1;omega
   ·rw[Array.getElem?_eq_none (by omega)]
 cases w with
 |mk heap tape drawn os output=>
  cases w' with
  |mk heap' tape' drawn' os' output'=>
   simp only at h1 h2 h3 h4 hd hh;subst h1 h2 h3;simp only[Go.Sort.grow,World.drewN];rw[←hh];congr 1;omega
theorem Xr0(h:Calls P f args w fun e w'=>e= .returned v∧Go.RowKit.Below w.heap.size w w'):
 Calls P f args w fun e w'=>e= .returned v∧ ∃q os',w'=Go.Sort.grow (w.drewN q) os':=
 (Xpe h).mono fun e w' ⟨⟨he,hb⟩,hd⟩=>⟨he,Xk9 hb (hd (by rw[he];simp))⟩
end Go.Proofs.YtdodihnehppnmaaGreatDoor
namespace Go.Proofs
open Go.RowKit
def Tryz.Cf:Go.Shelf.Ren:=⟨fun|6=>70|15=>119|14=>118|28=>186|29=>187|20=>178|21=>179|22=>180|23=>181|24=>182|25=>183|26=>184|27=>185|46=>249|47=>250|48=>251|49=>252|50=>253|57=>279|n=>n,fun|22=>60|24=>9|25=>100|3=>3|39=>116|0=>0|53=>110|55=>46|4=>4|46=>205|45=>204|50=>124|5=>5|9=>9|66=>254|70=>195|76=>281|77=>282|n=>n,fun|n=>n⟩
theorem Tryz.Jr:Go.Proofs.SlLaysF.n6 Tryz.prog Tryz.Cf:={
 mixed:=by kernel_rfl
 f6:=⟨Tryz.f70.name,by decide,Tryz.func70.trans (congrArg some (by kernel_rfl))⟩
 f14:=⟨Tryz.f118.name,by decide,Tryz.func118.trans (congrArg some (by kernel_rfl))⟩
 f15:=Tryz.func119.trans (congrArg some (by kernel_rfl))
 f20:=⟨Tryz.f178.name,by decide,Tryz.func178.trans (congrArg some (by kernel_rfl))⟩
 f21:=⟨Tryz.f179.name,by decide,Tryz.func179.trans (congrArg some (by kernel_rfl))⟩
 f22:=⟨Tryz.f180.name,by decide,Tryz.func180.trans (congrArg some (by kernel_rfl))⟩
 f23:=⟨Tryz.f181.name,by decide,Tryz.func181.trans (congrArg some (by kernel_rfl))⟩
 f24:=⟨Tryz.f182.name,by decide,Tryz.func182.trans (congrArg some (by kernel_rfl))⟩
 f25:=⟨Tryz.f183.name,by decide,Tryz.func183.trans (congrArg some (by kernel_rfl))⟩
 f26:=⟨Tryz.f184.name,by decide,Tryz.func184.trans (congrArg some (by kernel_rfl))⟩
 f27:=⟨Tryz.f185.name,by decide,Tryz.func185.trans (congrArg some (by kernel_rfl))⟩
 f28:=Tryz.func186.trans (congrArg some (by kernel_rfl))
 f29:=Tryz.func187.trans (congrArg some (by kernel_rfl))
 f46:=⟨Tryz.f249.name,by decide,Tryz.func249.trans (congrArg some (by kernel_rfl))⟩
 f47:=Tryz.func250.trans (congrArg some (by kernel_rfl))
 f48:=Tryz.func251.trans (congrArg some (by kernel_rfl))
 f49:=⟨Tryz.f252.name,by decide,Tryz.func252.trans (congrArg some (by kernel_rfl))⟩
 f50:=⟨Tryz.f253.name,by decide,Tryz.func253.trans (congrArg some (by kernel_rfl))⟩
 f57:=⟨Tryz.f279.name,by decide,Tryz.func279.trans (congrArg some (by kernel_rfl))⟩
 t0:=Tryz.underlying0
 a0:=Tryz.isAgg0
 z0:=Tryz.sizeOf0
 v0:=Tryz.zeroValue0
 t3:=Tryz.underlying3
 a3:=Tryz.isAgg3
 z3:=Tryz.sizeOf3
 v3:=Tryz.zeroValue3
 t4:=Tryz.underlying4
 a4:=Tryz.isAgg4
 z4:=Tryz.sizeOf4
 v4:=Tryz.zeroValue4
 t5:=Tryz.underlying5
 a5:=Tryz.isAgg5
 z5:=Tryz.sizeOf5
 v5:=Tryz.zeroValue5
 t9:=Tryz.underlying9
 a9:=Tryz.isAgg9
 z9:=Tryz.sizeOf9
 v9:=Tryz.zeroValue9
 t22:=Tryz.underlying60
 a22:=Tryz.isAgg60
 z22:=Tryz.sizeOf60
 v22:=Tryz.zeroValue60
 a24:=Tryz.isAgg9
 z24:=Tryz.sizeOf9
 t25:=Tryz.underlying100
 a25:=Tryz.isAgg100
 z25:=Tryz.sizeOf100
 v25:=Tryz.zeroValue100
 t39:=Tryz.underlying116
 a39:=Tryz.isAgg116
 z39:=Tryz.sizeOf116
 v39:=Tryz.zeroValue116
 t45:=Tryz.underlying204
 a45:=Tryz.isAgg204
 z45:=Tryz.sizeOf204
 v45:=Tryz.zeroValue204
 t46:=Tryz.underlying205
 a46:=Tryz.isAgg205
 z46:=Tryz.sizeOf205
 v46:=Tryz.zeroValue205
 t50:=Tryz.underlying124
 a50:=Tryz.isAgg124
 z50:=Tryz.sizeOf124
 v50:=Tryz.zeroValue124
 t53:=Tryz.underlying110
 a53:=Tryz.isAgg110
 z53:=Tryz.sizeOf110
 v53:=Tryz.zeroValue110
 t55:=Tryz.underlying46
 a55:=Tryz.isAgg46
 z55:=Tryz.sizeOf46
 v55:=Tryz.zeroValue46
 t66:=Tryz.underlying254
 a66:=Tryz.isAgg254
 z66:=Tryz.sizeOf254
 v66:=Tryz.zeroValue254
 t70:=Tryz.underlying195
 a70:=Tryz.isAgg195
 z70:=Tryz.sizeOf195
 v70:=Tryz.zeroValue195
 t76:=Tryz.underlying281
 a76:=Tryz.isAgg281
 z76:=Tryz.sizeOf281
 v76:=Tryz.zeroValue281
 t77:=Tryz.underlying282
 a77:=Tryz.isAgg282
 z77:=Tryz.sizeOf282
 v77:=Tryz.zeroValue282}
end Go.Proofs
namespace Go.Proofs.YtdodihnehppnmaaGreatDoor
open Go.RowKit Go.Sort
abbrev vU:={p:ae // p.length≤4294967280}
instance:Inhabited vU:=⟨⟨[],by decide⟩⟩
abbrev Cg(x:vU):Value:=S x.1
abbrev UA(x y:vU):Int:=ic x.1 y.1
theorem yP(x y:vU):ltOf UA x y=gU (els x.1) (els y.1):=Xzy x.1 y.1
theorem Zn:SWO (ltOf UA):=by
 refine⟨fun x=> ?_,fun x y z=> ?_,fun x y z=> ?_⟩
 ·rw[yP];cases h:gU (els x.1) (els x.1)with
  |false=>rfl
  |true=>exact absurd rfl (Io h)
 ·rw[yP,yP,yP];exact Dh
 ·rw[yP,yP,yP];intro h1 h2;cases h3:gU (els x.1) (els z.1)with
  |false=>rfl
  |true=>
   rcases Sr (els y.1) (els x.1)with h|h|h
   ·rw[Dh h h3]at h2;exact absurd h2 (by simp)
   ·rw[h,h3]at h2;exact absurd h2 (by simp)
   ·rw[h]at h1;exact absurd h1 (by simp)
theorem Xml{I:IH}{w:World}(hw:Ok I w){g:Nat}(hg:I g=none)(m:Nat)(dk:Array vU)(os:Array Obj):Ok I (sortWorld Cg w g 0 m dk os):=by
 refine hw.of_block fun b c hb=> ?_;show(w.heap.modify g (onCells _)++os)[b]?=_;have hlt:=hw.lt hb;rw[Array.getElem?_append_left (by simpa using hlt),Array.getElem?_modify,if_neg];intro e;subst e;rw[hg]at hb;cases hb
theorem Xog(I:IH)(hI:dG I)(w:World)(hw:Ok I w)(g:Nat)(hg:I g=none)(n:Nat):
 CmpLays1 Tryz.prog 71 #[] Cg UA g 0 n w:=fun m os dk _ x y=>
 Xr0 (Td I hI x.1 y.1 x.2 y.2 _ (Xml hw hg m dk os))
theorem Xtj{I:IH}{xs:List Value}{l:List ae}(h:bR gq I xs l):xs=l.map fun s=>S s:=by
 obtain⟨h1,h2⟩:=h;have EE:xs.length=l.length:=by rw[h1];exact Nat.mul_one _
 apply List.ext_getElem?;intro i;by_cases hi:i<l.length
 ·obtain⟨cs,k1,k2⟩:=h2 i hi;have k1:cs=[S l[i]]:=k1;subst k1;have k:=k2 0 (S l[i]) rfl;have e:i*gq.size+0=i:=Nat.mul_one i;rw[e]at k;rw[k,List.getElem?_map,List.getElem?_eq_getElem hi];rfl
 ·rw[List.getElem?_eq_none (by omega),List.getElem?_eq_none (by rw[List.length_map];omega)]
theorem Xui(I:IH)(l:List ae):bR gq I (l.map fun s=>S s) l:=by
 refine⟨by rw[List.length_map];exact(Nat.mul_one _).symm,fun i hi=>⟨[S l[i]],rfl,fun j u hj=> ?_⟩⟩;have Sd:j=0:=by have:=(List.getElem?_eq_some_iff.1 hj).1;simp at this;omega
 subst Sd;have e:i*gq.size+0=i:=Nat.mul_one i;rw[e,List.getElem?_map,List.getElem?_eq_getElem hi];simpa using hj
def LG(l:List ae)(h:∀p∈l,p.length≤4294967280):List vU:=l.attach.map fun p=>⟨p.1,h p.1 p.2⟩
theorem Xvt(l:List ae)(h:∀p∈l,p.length≤4294967280):(LG l h).map (·.1)=l:=by
 unfold LG;rw[List.map_map];exact List.attach_map_subtype_val l
def Ew(l l':List ae):Prop:=l'.Perm l∧l'.Pairwise fun p q=>gU (els q) (els p)=false
theorem Xk0(I:IH)(hI:dG I)(w:World)(hw:Ok I w)(B:Nat)(g cap:Nat)(l:List ae)(hg:I g=none)(hs:∀p∈l,p.length≤4294967280)(hv:aM gq 9 I w B (.slice (some ⟨g,0,none⟩) l.length cap) l)(hn:l.length≤1000000):
 Calls Tryz.prog 70 #[.slice (some ⟨g,0,none⟩) l.length cap,.func (.func 71) #[] #[]] w fun e w'=>e= .returned (.tuple #[])∧ ∃l',Ew l l'∧aM gq 9 I w' B (.slice (some ⟨g,0,none⟩) l.length cap) l'∧w.grownBy w' (some g):=by
 obtain⟨xs,⟨mP,h1⟩,hL⟩:=hv;have sQ:=Xtj hL;rcases h1 with⟨h0,_⟩|⟨gb,cap',cur,e,r1,r2,r3,r4,r5,r6⟩
 ·cases h0
 cases e;obtain⟨d,hd⟩:∃d,d=LG l hs:=⟨_,rfl⟩;have hdv:d.map (·.1)=l:=by rw[hd];exact Xvt l hs
 have xL:d.length=l.length:=by rw[←hdv,List.length_map]
 have hlt:g<w.heap.size:=(Qg r2);have r5':cur.size=cap:=r5.trans (Nat.mul_one _);have WR:cur.toList.take l.length=l.map fun s=>S s:=by
  rw[←sQ,←r6];congr 1;exact(Nat.mul_one _).symm
 have hH:Holds Cg w g 0 d.toArray:=by
  intro j hj;have hj':j<d.length:=by simpa using hj
  have xk:j<l.length:=by omega
  have hf:=congrArg (fun L=>L[j]?) WR;simp only[List.getElem?_take_of_lt xk,List.getElem?_map,List.getElem?_eq_getElem xk,Array.getElem?_toList,Option.map_some]at hf;have hx:l[j]=(d[j]).1:=by
   have:=congrArg (fun L=>L[j]?) hdv;simp only[List.getElem?_map,List.getElem?_eq_getElem hj',List.getElem?_eq_getElem xk,Option.map_some,Option.some.injEq]at this;exact this.symm
  refine⟨?_,?_⟩
  ·rw[Nat.zero_add,cell_of_row w g j _ _ _ r2,hf,getElem!_pos d.toArray j hj,hx];rfl
  ·rw[Nat.zero_add];exact frozen_of_row w g j _ _ r2
 have Ct:=Any.slices_SortFunc Tryz.Jr Cg (fun _=>rfl) UA Zn 71 #[] g 0 cap d.toArray w (fun _ _=>rfl) (Xog I hI w hw g hg _) hH hlt (by simp;omega);rw[List.size_toArray,xL]at Ct;refine Ct.mono ?_;rintro e w' ⟨rfl,d',n,os,hp,hsd,rfl⟩;obtain⟨p1,p2,p3⟩:=hp;have UB:d'.size=l.length:=by rw[←xL];simpa using p1
 have Si:d'.toList.Perm d:=by
  have h:=p3;rw[←UB,Array.extract_size]at h;have e2:d.toArray.extract 0 d'.size=d.toArray:=by rw[UB,←xL];simp
  rw[e2]at h;simpa using h
 have hlen:(d'.toList.map (·.1)).length=l.length:=by rw[List.length_map];simpa using UB
 have hblk:(sortWorld Cg w g 0 n d' os).heap[g]?=some (.cells (putCells Cg 0 d' cur) 9 (0,0)):=by
  show(w.heap.modify g (onCells _)++os)[g]?=_;rw[Array.getElem?_append_left (by simpa using hlt),Array.getElem?_modify,if_pos rfl,r2];rfl
 refine⟨rfl,d'.toList.map (·.1),⟨by rw[←hdv];exact Si.map _,?_⟩,⟨(d'.toList.map (·.1)).map fun s=>S s,⟨?_,.inr ⟨g,cap,_,by rw[hlen],r1,hblk,by rw[hlen];exact r3,r4,?_,?_⟩⟩,Xui I _⟩,?_⟩
 ·rw[List.pairwise_map,List.pairwise_iff_getElem];intro i j hi hj JE;have h:=hsd i j (Nat.zero_le _) JE (by rw[←UB];simpa using hj);rw[yP,getElem!_pos d' j (by simpa using hj),getElem!_pos d' i (by simpa using hi)]at h;simpa using h
 ·rw[List.length_map];exact(Nat.mul_one _).symm
 ·rw[show gq.size=1 from rfl,Nat.mul_one];simp[putCells];exact r5'
 ·rw[show gq.size=1 from rfl,Nat.mul_one,hlen];apply List.ext_getElem?;intro q;by_cases hq:q<l.length
  ·have UK:q<cur.size:=by omega
   have hq3:q<d'.size:=by omega
   rw[List.getElem?_take_of_lt hq,Array.getElem?_toList,Array.getElem?_eq_getElem (by simp[putCells];exact UK)];simp only[putCells,Array.getElem_mapIdx];rw[if_pos ⟨Nat.zero_le _,by omega⟩,Nat.sub_zero,getElem!_pos d' q hq3];simp[hq3]
  ·rw[List.getElem?_eq_none (by simp;omega),List.getElem?_eq_none (by simp;omega)]
 ·refine⟨rfl,rfl,rfl,?_,fun k hk cK=> ?_⟩
  ·show w.heap.size≤(w.heap.modify g (onCells _)++os).size;simp
  ·show(w.heap.modify g (onCells _)++os)[k]?=_;rw[Array.getElem?_append_left (by simpa using hk),Array.getElem?_modify,if_neg (fun e=>cK (by rw[e]))]
theorem Xtl(I:IH)(hI:dG I)(w:World)(hw:Ok I w)(B:Nat)(v:Value)(l:List ae)(hg:∀b,B≤b→I b=none)(hs:∀p∈l,p.length≤4294967280)(hv:aM gq 9 I w B v l)(hn:l.length≤1000000):
 Calls Tryz.prog 70 #[v,.func (.func 71) #[] #[]] w fun e w'=>e= .returned (.tuple #[])∧ ∃l',Ew l l'∧aM gq 9 I w' B v l'∧w.grownBy w' v.ownBlock:=by
 have hv':=hv;obtain⟨xs,⟨mP,h1⟩,hL⟩:=hv';rcases h1 with⟨rfl,h0⟩|⟨gb,cap',cur,rfl,hB,_⟩
 ·refine(AnyF.slices_SortFunc_none {Tryz.Jr with} none 0 _ w).mono ?_;rintro e w' ⟨rfl,rfl⟩;have hl:l=[]:=List.eq_nil_of_length_eq_zero h0;subst hl;exact⟨rfl,[],⟨List.Perm.refl _,List.Pairwise.nil⟩,aM.nil _ _ _ _ _,⟨rfl,rfl,rfl,Qn _,fun _ _ _=>rfl⟩⟩
 ·exact Xk0 I hI w hw B gb cap' l (hg gb hB) hs hv hn
