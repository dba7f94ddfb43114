/-
  Walks and laws that the claim's theorem uses: texts VeA LhK, joined; comments out. Conditions: as each theorem says.
-/
import Derived.Test.YtdeknddamidldaaGreatDoorQ37
namespace Go.Proofs.YtdeknddamidldaaGreatDoor
open Go.RowKit
theorem Xda (I:IH) (a:Ent) (va vx vb vy:Value) (hva:RdS tAt I va a.attrs) (hvx:RdS tXt I vx a.exts) (hvb:RdS tAt I vb a.attrs) (hvy:RdS tXt I vy a.exts) (w:World) (hw:Ok I w):
 Calls Tryz.prog 22 #[entV a va vx,entV a vb vy] w fun e w'=>e= .returned (.bool true)∧Below w.heap.size w w':=by
 have h:=Xhf I a a va vx vb vy hva hvx hvb hvy w hw
 rwa [Qt rfl] at h
structure VerAt (w:World) (b o:Nat) (x:Ver) (va vx:Value):Prop where
 c0:w.cell? ⟨b,o,none⟩=some (.int .i64 x.s)
 c1:w.cell? ⟨b,o+1,none⟩=some (.int .i64 x.d)
 c2:w.cell? ⟨b,o+2,none⟩=some (.int .i64 x.e.kind)
 c3:w.cell? ⟨b,o+2+1,none⟩=some (S x.e.path)
 c4:w.cell? ⟨b,o+2+2,none⟩=some va
 c5:w.cell? ⟨b,o+2+3,none⟩=some (S x.e.target)
 c6:w.cell? ⟨b,o+2+4,none⟩=some (.int .i64 x.e.size)
 c7:w.cell? ⟨b,o+2+5,none⟩=some (S x.e.digest)
 c8:w.cell? ⟨b,o+2+6,none⟩=some vx
theorem Xqg {I:IH} {v:Value} {l:List Ver} {w:World} (h:RdS tVer I v l) (hw:Ok I w) (i:Nat) (hi:i<l.length):∃x va vx b off cap,l[i]=x∧v= .slice (some ⟨b,off,none⟩) l.length cap∧
 VerAt w b (off+i*9) x va vx∧RdS tAt I va x.e.attrs∧RdS tXt I vx x.e.exts:=by
 obtain ⟨b,off,cap,cs,hv,⟨va,vx,hcs,h1,h2⟩,hc⟩:=h.at_ hw hi
 subst hcs
 exact ⟨_,va,vx,b,off,cap,rfl,hv,⟨hc 0 _ rfl,hc 1 _ rfl,hc 2 _ rfl,hc 3 _ rfl,hc 4 _ rfl,hc 5 _ rfl,hc 6 _ rfl,hc 7 _ rfl,hc 8 _ rfl⟩,h1,h2⟩
set_option maxRecDepth 100000 in
set_option maxHeartbeats 2000000 in
theorem Xcp (I:IH) (v1 v2:Value) (l:List Ver) (hv1:RdS tVer I v1 l) (hv2:RdS tVer I v2 l) (w:World) (hw:Ok I w):
 Calls Tryz.prog 16 #[v1,v2] w fun e w'=>e= .returned (.bool true)∧Below w.heap.size w w':=by
 have hlen:=hv1.len_le
 obtain ⟨ao,cap,rfl,hcap,hcm,_⟩:=id hv1
 obtain ⟨ao2,cap2,rfl,hcap2,hcm2,_⟩:=id hv2
 have Hv1:=Qh hv1;clear hv1
 have Hv2:=Qh hv2;clear hv2
 go_enter Tryz.func16,Tryz.ntmps16
 go_wp2_with fail
 go_loopw [13] (fun s13 wr=> ∃k:Nat,k≤l.length∧s13= .int .i64 k∧Below w.heap.size w wr) (fun i _=>l.length-(intOf i).toNat)
 case atStart=>exact ⟨0,Nat.zero_le _,rfl,Qb _ _⟩
 case round=>
  obtain ⟨k,hk,rfl,hb⟩:=hrel
  by_cases hlt:k<l.length
  ·have hwr:Ok I wr:=hw.below (Qn _) hb
   obtain ⟨x,va,vx,b,off,cap',hlx,hvv,⟨c0,c1,c2,c3,c4,c5,c6,c7,c8⟩,h1,h2⟩:=Xqg Hv1.out hwr k hlt
   cases hvv
   obtain ⟨y,vb,vy,b',off',cap'',hly,hvv,⟨d0,d1,d2,d3,d4,d5,d6,d7,d8⟩,h3,h4⟩:=Xqg Hv2.out hwr k hlt
   cases hvv
   obtain rfl:x=y:=hlx.symm.trans hly
   have Heq:=Qh (fun W hW=>Xda I x.e va vx vb vy h1 h2 h3 h4 W hW)
   obtain ⟨aa,ca,rfl,_,_,_⟩:=id h1
   obtain ⟨ax,cx,rfl,_,_,_⟩:=id h2
   obtain ⟨aa2,ca2,rfl,_,_,_⟩:=id h3
   obtain ⟨ax2,cx2,rfl,_,_,_⟩:=id h4
   have q1:(x.s != x.s)=false:=by simp
   have q2:(x.d != x.d)=false:=by simp
   have c0:=cell_regrown c0
   have c1:=cell_regrown c1
   have c2:=cell_regrown c2
   have c3:=cell_regrown c3
   have c4:=cell_regrown c4
   have c5:=cell_regrown c5
   have c6:=cell_regrown c6
   have c7:=cell_regrown c7
   have c8:=cell_regrown c8
   have d0:=cell_regrown d0
   have d1:=cell_regrown d1
   have d2:=cell_regrown d2
   have d3:=cell_regrown d3
   have d4:=cell_regrown d4
   have d5:=cell_regrown d5
   have d6:=cell_regrown d6
   have d7:=cell_regrown d7
   have d8:=cell_regrown d8
   clear hlx hly h1 h2 h3 h4
   go_wp2_with fail
   refine wp_region_quiet_below (by kernel_rfl) (by kernel_rfl) ?_
   repeat (go_big_quiet_step ((with_reducible exact Calls.regrown_of (Heq.out _ (hwr.below (Qn _) (below_regrown _ _ _))))))
   refine wpQuiet_nil ?_
   intro w2 hwq
   have hb2:Below (wr).heap.size (wr) w2:=by
    obtain ⟨pq,rfl⟩:=hwq
    exact below_regrown _ _ _
   clear hwq
   go_wp2
   go_roundw
   case rel=>exact ⟨k+1,by omega,by go_num,hb.trans (hb2.mono hb.size)⟩
   case measure=>simp [intOf];omega
  ·go_wp2
   go_ret
   exact ⟨rfl,hb⟩
theorem Xi0 {d:Int}:∀ {es:List Ent} {s:Stt},AllOk d s es→ ∀e∈es,1≤e.kind
 | [],_,_,e,he=>by cases he
 |x::es,s,⟨h1,h2⟩,e,he=>by
  rcases List.mem_cons.1 he with rfl|he
  ·exact (Xba (step_ok h1).2.2).1
  ·exact Xi0 h2 e he
theorem Xli:∀ {xs:List Ses} {s:Stt},AllSes s xs→ ∀x∈xs,∀e∈x.ents,1≤e.kind
 | [],_,_,x,hx,_,_=>by cases hx
 |y::xs,s,⟨h1,h2⟩,x,hx,e,he=>by
  rcases List.mem_cons.1 hx with rfl|hx
  ·exact Xi0 h1 e he
  ·exact Xli h2 x hx e he
theorem Xfb {l:List Ses} (h:chkH l=0):∀x∈l,∀e∈x.ents,1≤e.kind:=by
 unfold chkH at h
 exact Xli (Xnu h)
theorem Xrc {α:Type} (l:List α):l= []∨ ∃r z,l=r++ [z]:=by
 rcases List.eq_nil_or_concat l with h|⟨r,z,h⟩
 ·exact .inl h
 ·exact .inr ⟨r,z,by rw [h,List.concat_eq_append]⟩
theorem Xqt {m n K:Nat} (h:m%(n+1)=K):((m:Int)%((n:Int)+1))=(K:Int):=by
 rw [←h];simp
theorem Xjd {l:List Ses} {k:Nat} (h:k≤l.length):treeR l (k:Int)=((aftS nilS (l.take k)).tree,0):=by
 rw [treeR,if_neg (by omega)];rfl
theorem Xln {l:List Ses} {k:Nat} (h:k≤l.length):holdsR l (k:Int)=(aftS nilS (l.take k)).holds:=by
 rw [holdsR,if_neg (by omega)];rfl
theorem Xrb {t:List Ent} {p:Bytes} (h:getT t p=none):getE t p=(zeroE,false):=by unfold getE;rw [h]
theorem Xuu {t:List Ent} {p:Bytes} {x:Ent} (h:getT t p=some x):getE t p=(x,true):=by unfold getE;rw [h]
end Go.Proofs.YtdeknddamidldaaGreatDoor
