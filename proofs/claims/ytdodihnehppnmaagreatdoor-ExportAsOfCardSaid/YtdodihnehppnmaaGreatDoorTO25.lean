/-
  Walks and laws that the claim's theorem uses: texts CkG, joined; comments out. Conditions: as each theorem says.
-/
import Derived.Test.YtdodihnehppnmaaGreatDoorTO21
set_option linter.all false
namespace Go.Proofs.YtdodihnehppnmaaGreatDoor
open Go.RowKit
theorem Xpn (n:Nat) (hn:n≤65536):∃ZZ:Array Value,(∀W,(Instr.makeSlice 75 (.int .i64 (n:Int)) (.int .i64 (n:Int))).run Tryz.prog W= .ok (.slice (some ⟨W.heap.size,0,none⟩) n n) (W.alloc (.cells ZZ 5)))∧
 ∀W:World,(convert 75 9 (.slice (some ⟨W.heap.size,0,none⟩) n n)).run Tryz.prog (W.alloc (.cells ZZ 5))= .ok (S (List.replicate n 0)) (W.alloc (.cells ZZ 5)):=by
 obtain ⟨i,h1,h2,h3,h4⟩:=info_parts Xhd
 refine ⟨madeCells (Value.int .u8 0).cells (n*i.size),fun W=> ?_,fun W=> ?_⟩
 ·have:=run_make (P:=Tryz.prog) W 75 5 i _ Tryz.underlying75 h1 h2 .i64 .i64 (n:Int) (n:Int) (by omega) (by omega) (by rw [h4];omega) (by omega)
  simpa using this
 ·rw [h3,Nat.mul_one,run_convert_bytes_string _ _ _ 5 _ _ _ Tryz.underlying75 Tryz.underlying5 Tryz.underlying9,run_bytesToString (ns:=List.replicate n 0)]
  ·rw [Xon]
   simp
  ·have h:=run_loadCells_list (P:=Tryz.prog) (W.alloc (.cells (madeCells (Value.int .u8 0).cells n) 5)) ⟨W.heap.size,0,none⟩ ((List.replicate n (0:Int)).map (Value.int .u8)) (fun j u hu=>by
    rw [Addr.add_lit,Nat.zero_add,World.cell?_alloc_new,←Array.getElem?_toList]
    rw [show (Value.int .u8 0).cells= #[Value.int .u8 0] from rfl,toList_madeCells_one]
    simpa using hu)
   rw [List.length_map,List.length_replicate] at h
   exact h
theorem Xls {st:List Bytes} {l:List Xt} {k:Nat} {out:Bytes} {N:Bytes × Int} (hk:k<l.length) {x:Xt} (hx:l[k]=x) (h:getG st (l.drop k) out=N):
 (if gBad st x=true then ([],2) else if 0<x.s∧(((strAtP st x).length:Int)<x.o∨((strAtP st x).length:Int)-x.o<x.n) then ([],2) else if 65536-(out.length:Int)<x.n then ([],6)
 else getG st (l.drop (k+1)) (out++if x.s=0 then List.replicate x.n.toNat 0 else ((strAtP st x).drop x.o.toNat).take x.n.toNat))=N:=by
 rw [List.drop_eq_getElem_cons hk,hx,getG] at h;exact h
theorem Xc3 {st:List Bytes} {x:Xt} (h:x.n<0∨x.o<0∨x.s<0∨(st.length:Int)<x.s∨(x.s=0∧x.o≠0)):gBad st x=true:=by
 unfold gBad
 rcases h with h|h|h|h|⟨h1,h2⟩
 ·rw [Qt h];simp
 ·rw [Qt h];simp
 ·rw [Qt h];simp
 ·rw [Qt h];simp
 ·simp [h1,h2]
theorem Xg0 {st:List Bytes} {x:Xt} (h1:¬x.n<0) (h2:¬x.o<0) (h3:¬x.s<0) (h4:¬(st.length:Int)<x.s) (h5:¬(x.s=0∧x.o≠0)):gBad st x=false:=by
 unfold gBad
 rw [Qf h1,Qf h2,Qf h3,Qf h4]
 simpa using h5
set_option maxRecDepth 100000 in
set_option maxHeartbeats 4000000 in
theorem Xq8 (I:IH) (vs vl:Value) (st:List Bytes) (l:List Xt) (hvs:RdS tStr I vs st) (hvl:RdS tXt I vl l) (hst:∀s∈st,s.length≤9223372036854775807) (w:World) (hw:Ok I w):
 Calls Tryz.prog 36 #[vs,vl] w fun e w'=>e= .returned (.tuple #[S (getP st l).1,.int .i64 (getP st l).2])∧Below w.heap.size w w':=by
 have hls:=hvs.len_le
 have hll:=hvl.len_le
 obtain ⟨as0,cs0,rfl,_,_,_⟩:=id hvs
 obtain ⟨al,cl,rfl,_,_,_⟩:=id hvl
 have Hvs:=Qh hvs
 have Hvl:=Qh hvl
 have Hst:=Qh hst
 obtain ⟨N,hN⟩:∃N,getP st l=N:=⟨_,rfl⟩
 have HN:=Qh (show getG st (l.drop 0) []=N from hN)
 rw [hN]
 clear hvs hvl hst hN
 go_enter Tryz.func36,Tryz.ntmps36
 go_wp2_with fail
 go_loopw [6,7] (fun s6 s7 wr=> ∃(k:Nat) (out:Bytes),k≤l.length∧s7= .int .i64 k∧s6=S out∧out.length≤65536∧getG st (l.drop k) out=N∧Below w.heap.size w wr) (fun _ i _=>l.length-(intOf i).toNat)
 case atStart=>exact ⟨0,[],Nat.zero_le _,rfl,rfl,by simp,HN.out,Qb _ _⟩
 case round=>
  clear HN
  obtain ⟨k,out,hk,rfl,rfl,hol,hr,hb⟩:=hrel
  have Hr:=Qh hr
  have hok:Ok I wr:=hw.below (Qn _) hb
  clear hr
  by_cases hlt:k<l.length
  ·obtain ⟨x,b,off,cap',hlx,hvv,x0,x1,x2⟩:=xtAt Hvl.out hok k hlt
   cases hvv
   have Hg:=Qh (Xls hlt hlx Hr.out)
   clear hlx Hr
   obtain ⟨zs,zo,zn⟩:=x
   dsimp only at x0 x1 x2
   have m65:IntKind.i64.wrap (65536-(out.length:Int))=65536-(out.length:Int):=IntWalk.i64_in _ (by omega)
   by_cases g1:zn<0
   ·have Hn:=Qh (show N=([],2) by have:=Hg.out;rw [if_pos (Xc3 (x:=⟨zs,zo,zn⟩) (.inl g1))] at this;exact this.symm)
    have d1:decide (zn<0)=true:=Qt g1
    clear g1
    have y0:(wr.alloc (.cells #[.int .i64 (zs),.int .i64 (zo),.int .i64 (zn)] 134)).cell? ⟨wr.heap.size,0,none⟩=some (.int .i64 (zs)):=by simp
    have y1:(wr.alloc (.cells #[.int .i64 (zs),.int .i64 (zo),.int .i64 (zn)] 134)).cell? ⟨wr.heap.size,1,none⟩=some (.int .i64 (zo)):=by simp
    have y2:(wr.alloc (.cells #[.int .i64 (zs),.int .i64 (zo),.int .i64 (zn)] 134)).cell? ⟨wr.heap.size,2,none⟩=some (.int .i64 (zn)):=by simp
    have hb1:=hb.alloc hb.size (.cells #[.int .i64 (zs),.int .i64 (zo),.int .i64 (zn)] 134)
    go_wp2
    go_ret2
    rw [Hn.out]
    exact ⟨rfl,hb1⟩
   have d1:decide (zn<0)=false:=Qf g1
   by_cases g2:zo<0
   ·have Hn:=Qh (show N=([],2) by have:=Hg.out;rw [if_pos (Xc3 (x:=⟨zs,zo,zn⟩) (.inr (.inl g2)))] at this;exact this.symm)
    have d2:decide (zo<0)=true:=Qt g2
    clear g1 g2
    have y0:(wr.alloc (.cells #[.int .i64 (zs),.int .i64 (zo),.int .i64 (zn)] 134)).cell? ⟨wr.heap.size,0,none⟩=some (.int .i64 (zs)):=by simp
    have y1:(wr.alloc (.cells #[.int .i64 (zs),.int .i64 (zo),.int .i64 (zn)] 134)).cell? ⟨wr.heap.size,1,none⟩=some (.int .i64 (zo)):=by simp
    have y2:(wr.alloc (.cells #[.int .i64 (zs),.int .i64 (zo),.int .i64 (zn)] 134)).cell? ⟨wr.heap.size,2,none⟩=some (.int .i64 (zn)):=by simp
    have hb1:=hb.alloc hb.size (.cells #[.int .i64 (zs),.int .i64 (zo),.int .i64 (zn)] 134)
    go_wp2
    go_ret2
    rw [Hn.out]
    exact ⟨rfl,hb1⟩
   have d2:decide (zo<0)=false:=Qf g2
   by_cases g3:zs<0
   ·have Hn:=Qh (show N=([],2) by have:=Hg.out;rw [if_pos (Xc3 (x:=⟨zs,zo,zn⟩) (.inr (.inr (.inl g3))))] at this;exact this.symm)
    have d3:decide (zs<0)=true:=Qt g3
    clear g1 g2 g3
    have y0:(wr.alloc (.cells #[.int .i64 (zs),.int .i64 (zo),.int .i64 (zn)] 134)).cell? ⟨wr.heap.size,0,none⟩=some (.int .i64 (zs)):=by simp
    have y1:(wr.alloc (.cells #[.int .i64 (zs),.int .i64 (zo),.int .i64 (zn)] 134)).cell? ⟨wr.heap.size,1,none⟩=some (.int .i64 (zo)):=by simp
    have y2:(wr.alloc (.cells #[.int .i64 (zs),.int .i64 (zo),.int .i64 (zn)] 134)).cell? ⟨wr.heap.size,2,none⟩=some (.int .i64 (zn)):=by simp
    have hb1:=hb.alloc hb.size (.cells #[.int .i64 (zs),.int .i64 (zo),.int .i64 (zn)] 134)
    go_wp2
    go_ret2
    rw [Hn.out]
    exact ⟨rfl,hb1⟩
   have d3:decide (zs<0)=false:=Qf g3
   by_cases g4:(st.length:Int)<zs
   ·have Hn:=Qh (show N=([],2) by have:=Hg.out;rw [if_pos (Xc3 (x:=⟨zs,zo,zn⟩) (.inr (.inr (.inr (.inl g4)))))] at this;exact this.symm)
    have d4:decide ((st.length:Int)<zs)=true:=Qt g4
    clear g1 g2 g3 g4
    have y0:(wr.alloc (.cells #[.int .i64 (zs),.int .i64 (zo),.int .i64 (zn)] 134)).cell? ⟨wr.heap.size,0,none⟩=some (.int .i64 (zs)):=by simp
    have y1:(wr.alloc (.cells #[.int .i64 (zs),.int .i64 (zo),.int .i64 (zn)] 134)).cell? ⟨wr.heap.size,1,none⟩=some (.int .i64 (zo)):=by simp
    have y2:(wr.alloc (.cells #[.int .i64 (zs),.int .i64 (zo),.int .i64 (zn)] 134)).cell? ⟨wr.heap.size,2,none⟩=some (.int .i64 (zn)):=by simp
    have hb1:=hb.alloc hb.size (.cells #[.int .i64 (zs),.int .i64 (zo),.int .i64 (zn)] 134)
    go_wp2
    go_ret2
    rw [Hn.out]
    exact ⟨rfl,hb1⟩
   have d4:decide ((st.length:Int)<zs)=false:=Qf g4
   have hn0:(0:Int)≤zn:=by omega
   by_cases hs0:zs=0
   ·have e1:(zs==0)=true:=by simpa using hs0
    have e2:decide (0<zs)=false:=Qf (by omega)
    by_cases ho0:zo=0
    case neg=>
     have Hn:=Qh (show N=([],2) by have:=Hg.out;rw [if_pos (Xc3 (x:=⟨zs,zo,zn⟩) (.inr (.inr (.inr (.inr ⟨hs0,ho0⟩)))))] at this;exact this.symm)
     have e3:(zo != 0)=true:=by simpa using ho0
     clear g1 g2 g3 g4 hs0 ho0
     have y0:(wr.alloc (.cells #[.int .i64 (zs),.int .i64 (zo),.int .i64 (zn)] 134)).cell? ⟨wr.heap.size,0,none⟩=some (.int .i64 (zs)):=by simp
     have y1:(wr.alloc (.cells #[.int .i64 (zs),.int .i64 (zo),.int .i64 (zn)] 134)).cell? ⟨wr.heap.size,1,none⟩=some (.int .i64 (zo)):=by simp
     have y2:(wr.alloc (.cells #[.int .i64 (zs),.int .i64 (zo),.int .i64 (zn)] 134)).cell? ⟨wr.heap.size,2,none⟩=some (.int .i64 (zn)):=by simp
     have hb1:=hb.alloc hb.size (.cells #[.int .i64 (zs),.int .i64 (zo),.int .i64 (zn)] 134)
     go_wp2
     go_ret2
     rw [Hn.out]
     exact ⟨rfl,hb1⟩
    have e3:(zo != 0)=false:=by simpa using ho0
    have Hg2:=Qh (show (if 65536-(out.length:Int)<zn then (([],6):Bytes × Int) else getG st (l.drop (k+1)) (out++List.replicate zn.toNat 0))=N by
     have h:=Hg.out
     dsimp only at h
     rw [if_neg (by rw [Xg0 (x:=⟨zs,zo,zn⟩) g1 g2 g3 g4 (fun h=>h.2 ho0)];simp),if_neg (by omega),if_pos hs0] at h
     exact h)
    by_cases hlm:65536-(out.length:Int)<zn
    ·have Hn:=Qh (show N=([],6) by have:=Hg2.out;rw [if_pos hlm] at this;exact this.symm)
     have d5:decide (65536-(out.length:Int)<zn)=true:=Qt hlm
     clear g1 g2 g3 g4 hs0 ho0 hlm Hg Hg2
     have y0:(wr.alloc (.cells #[.int .i64 (zs),.int .i64 (zo),.int .i64 (zn)] 134)).cell? ⟨wr.heap.size,0,none⟩=some (.int .i64 (zs)):=by simp
     have y1:(wr.alloc (.cells #[.int .i64 (zs),.int .i64 (zo),.int .i64 (zn)] 134)).cell? ⟨wr.heap.size,1,none⟩=some (.int .i64 (zo)):=by simp
     have y2:(wr.alloc (.cells #[.int .i64 (zs),.int .i64 (zo),.int .i64 (zn)] 134)).cell? ⟨wr.heap.size,2,none⟩=some (.int .i64 (zn)):=by simp
     have hb1:=hb.alloc hb.size (.cells #[.int .i64 (zs),.int .i64 (zo),.int .i64 (zn)] 134)
     go_wp2_with fail
     have z0:=cell_regrown y0
     have z1:=cell_regrown y1
     have z2:=cell_regrown y2
     refine wp_region_quiet_below (by kernel_rfl) (by kernel_rfl) ?_
     repeat (go_big_quiet_step ((fail)))
     refine wpQuiet_nil ?_
     intro w2 hwq
     have hb2:Below ((wr.alloc (.cells #[.int .i64 (zs),.int .i64 (zo),.int .i64 (zn)] 134))).heap.size ((wr.alloc (.cells #[.int .i64 (zs),.int .i64 (zo),.int .i64 (zn)] 134))) w2:=by
      obtain ⟨pq,rfl⟩:=hwq
      exact below_regrown _ _ _
     clear hwq
     replace y0:=Xaa hb2 y0
     replace y1:=Xaa hb2 y1
     replace y2:=Xaa hb2 y2
     clear z0 z1 z2
     go_wp2
     go_ret2
     rw [Hn.out]
     exact ⟨rfl,hb1.trans (hb2.mono hb1.size)⟩
    ·obtain ⟨q,rfl⟩:∃q:Nat,zn=(q:Int):=⟨zn.toNat,by omega⟩
     have hql:q+out.length≤65536:=by omega
     have Hn:=Qh (show getG st (l.drop (k+1)) (out++List.replicate q 0)=N by have:=Hg2.out;rw [if_neg hlm,Int.toNat_natCast] at this;exact this)
     have d5:decide (65536-(out.length:Int)<(q:Int))=false:=Qf (by omega)
     obtain ⟨ZZ,hmk,hcv⟩:=Xpn q (by omega)
     clear g1 g2 g3 g4 hs0 ho0 hlm Hg Hg2
     have y0:(wr.alloc (.cells #[.int .i64 (zs),.int .i64 (zo),.int .i64 ((q:Int))] 134)).cell? ⟨wr.heap.size,0,none⟩=some (.int .i64 (zs)):=by simp
     have y1:(wr.alloc (.cells #[.int .i64 (zs),.int .i64 (zo),.int .i64 ((q:Int))] 134)).cell? ⟨wr.heap.size,1,none⟩=some (.int .i64 (zo)):=by simp
     have y2:(wr.alloc (.cells #[.int .i64 (zs),.int .i64 (zo),.int .i64 ((q:Int))] 134)).cell? ⟨wr.heap.size,2,none⟩=some (.int .i64 ((q:Int))):=by simp
     have hb1:=hb.alloc hb.size (.cells #[.int .i64 (zs),.int .i64 (zo),.int .i64 ((q:Int))] 134)
     go_wp2_with fail
     have z0:=cell_regrown y0
     have z1:=cell_regrown y1
     have z2:=cell_regrown y2
     refine wp_region_quiet_below (by kernel_rfl) (by kernel_rfl) ?_
     repeat (go_big_quiet_step ((fail)))
     refine wpQuiet_nil ?_
     intro w2 hwq
     have hb2:Below ((wr.alloc (.cells #[.int .i64 (zs),.int .i64 (zo),.int .i64 ((q:Int))] 134))).heap.size ((wr.alloc (.cells #[.int .i64 (zs),.int .i64 (zo),.int .i64 ((q:Int))] 134))) w2:=by
      obtain ⟨pq,rfl⟩:=hwq
      exact below_regrown _ _ _
     clear hwq
     replace y0:=Xaa hb2 y0
     replace y1:=Xaa hb2 y1
     replace y2:=Xaa hb2 y2
     clear z0 z1 z2
     have hb2':=hb1.trans (hb2.mono hb1.size)
     have hcv2:=hcv w2
     have hmk2:=hmk w2
     go_wp2
     go_roundw
     case rel=>exact ⟨k+1,_,by omega,by go_num,rfl,by simp;omega,Hn.out,hb2'.alloc hb2'.size _⟩
     case measure=>simp [intOf];omega
   ·obtain ⟨m,rfl⟩:∃m:Nat,zs=(m:Int)+1:=⟨(zs-1).toNat,by omega⟩
    have hms:m<st.length:=by omega
    obtain ⟨u,bu,offu,capu,hlu,hvv,u0⟩:=Xhh Hvs.out (hok.alloc (.cells #[.int .i64 ((m:Int)+1),.int .i64 zo,.int .i64 zn] 134)) m hms
    cases hvv
    have hul:=Hst.out u (by rw [←hlu];exact List.getElem_mem hms)
    have hsu:strAtP st ⟨(m:Int)+1,zo,zn⟩=u:=by
     show st.getD (((m:Int)+1-1).toNat) []=u
     rw [show ((m:Int)+1-1).toNat=m by omega]
     simp [List.getD,hms,hlu]
    have e1:(((m:Int)+1)==0)=false:=by simpa using hs0
    have e2:decide ((0:Int)<(m:Int)+1)=true:=Qt (by omega)
    have i1:(m:Int)<st.length:=by omega
    have Hg1:=Qh (show (if 0<(m:Int)+1∧((u.length:Int)<zo∨(u.length:Int)-zo<zn) then (([],2):Bytes × Int) else if 65536-(out.length:Int)<zn then ([],6) else getG st (l.drop (k+1)) (out++(u.drop zo.toNat).take zn.toNat))=N by
     have h:=Hg.out
     dsimp only at h
     rw [if_neg (by rw [Xg0 (x:=⟨(m:Int)+1,zo,zn⟩) g1 g2 g3 g4 (fun h=>hs0 h.1)];simp),hsu] at h
     rw [←h]
     simp only [if_neg hs0])
    clear Hg hsu hlu
    by_cases hof:(u.length:Int)<zo
    ·have Hn:=Qh (show N=([],2) by have:=Hg1.out;rw [if_pos ⟨by omega,.inl hof⟩] at this;exact this.symm)
     have d6:decide ((u.length:Int)<zo)=true:=Qt hof
     clear g1 g2 g3 g4 hs0 hof Hg1
     have u1:=cell_regrown u0
     have y0:(wr.alloc (.cells #[.int .i64 ((m:Int)+1),.int .i64 (zo),.int .i64 (zn)] 134)).cell? ⟨wr.heap.size,0,none⟩=some (.int .i64 ((m:Int)+1)):=by simp
     have y1:(wr.alloc (.cells #[.int .i64 ((m:Int)+1),.int .i64 (zo),.int .i64 (zn)] 134)).cell? ⟨wr.heap.size,1,none⟩=some (.int .i64 (zo)):=by simp
     have y2:(wr.alloc (.cells #[.int .i64 ((m:Int)+1),.int .i64 (zo),.int .i64 (zn)] 134)).cell? ⟨wr.heap.size,2,none⟩=some (.int .i64 (zn)):=by simp
     have hb1:=hb.alloc hb.size (.cells #[.int .i64 ((m:Int)+1),.int .i64 (zo),.int .i64 (zn)] 134)
     go_wp2_with fail
     have z0:=cell_regrown y0
     have z1:=cell_regrown y1
     have z2:=cell_regrown y2
     refine wp_region_quiet_below (by kernel_rfl) (by kernel_rfl) ?_
     repeat (go_big_quiet_step ((fail)))
     refine wpQuiet_nil ?_
     intro w2 hwq
     have hb2:Below ((wr.alloc (.cells #[.int .i64 ((m:Int)+1),.int .i64 (zo),.int .i64 (zn)] 134))).heap.size ((wr.alloc (.cells #[.int .i64 ((m:Int)+1),.int .i64 (zo),.int .i64 (zn)] 134))) w2:=by
      obtain ⟨pq,rfl⟩:=hwq
      exact below_regrown _ _ _
     clear hwq
     replace y0:=Xaa hb2 y0
     replace y1:=Xaa hb2 y1
     replace y2:=Xaa hb2 y2
     clear z0 z1 z2
     go_wp2
     go_ret2
     rw [Hn.out]
     exact ⟨rfl,hb1.trans (hb2.mono hb1.size)⟩
    have d6:decide ((u.length:Int)<zo)=false:=Qf hof
    have m8:IntKind.i64.wrap ((u.length:Int)-zo)=(u.length:Int)-zo:=IntWalk.i64_in _ (by omega)
    have m9:wrap64 ((u.length:Int)-zo)=(u.length:Int)-zo:=by unfold wrap64;omega
    by_cases hin:(u.length:Int)-zo<zn
    ·have Hn:=Qh (show N=([],2) by have:=Hg1.out;rw [if_pos ⟨by omega,.inr hin⟩] at this;exact this.symm)
     have d7:decide ((u.length:Int)-zo<zn)=true:=Qt hin
     clear g1 g2 g3 g4 hs0 hof hin Hg1
     have u1:=cell_regrown u0
     have y0:(wr.alloc (.cells #[.int .i64 ((m:Int)+1),.int .i64 (zo),.int .i64 (zn)] 134)).cell? ⟨wr.heap.size,0,none⟩=some (.int .i64 ((m:Int)+1)):=by simp
     have y1:(wr.alloc (.cells #[.int .i64 ((m:Int)+1),.int .i64 (zo),.int .i64 (zn)] 134)).cell? ⟨wr.heap.size,1,none⟩=some (.int .i64 (zo)):=by simp
     have y2:(wr.alloc (.cells #[.int .i64 ((m:Int)+1),.int .i64 (zo),.int .i64 (zn)] 134)).cell? ⟨wr.heap.size,2,none⟩=some (.int .i64 (zn)):=by simp
     have hb1:=hb.alloc hb.size (.cells #[.int .i64 ((m:Int)+1),.int .i64 (zo),.int .i64 (zn)] 134)
     go_wp2_with fail
     have z0:=cell_regrown y0
     have z1:=cell_regrown y1
     have z2:=cell_regrown y2
     refine wp_region_quiet_below (by kernel_rfl) (by kernel_rfl) ?_
     repeat (go_big_quiet_step ((fail)))
     refine wpQuiet_nil ?_
     intro w2 hwq
     have hb2:Below ((wr.alloc (.cells #[.int .i64 ((m:Int)+1),.int .i64 (zo),.int .i64 (zn)] 134))).heap.size ((wr.alloc (.cells #[.int .i64 ((m:Int)+1),.int .i64 (zo),.int .i64 (zn)] 134))) w2:=by
      obtain ⟨pq,rfl⟩:=hwq
      exact below_regrown _ _ _
     clear hwq
     replace y0:=Xaa hb2 y0
     replace y1:=Xaa hb2 y1
     replace y2:=Xaa hb2 y2
     clear z0 z1 z2
     go_wp2
     go_ret2
     rw [Hn.out]
     exact ⟨rfl,hb1.trans (hb2.mono hb1.size)⟩
    have d7:decide ((u.length:Int)-zo<zn)=false:=Qf hin
    have Hg2:=Qh (show (if 65536-(out.length:Int)<zn then (([],6):Bytes × Int) else getG st (l.drop (k+1)) (out++(u.drop zo.toNat).take zn.toNat))=N by
     have h:=Hg1.out
     rw [if_neg (by omega)] at h
     exact h)
    by_cases hlm:65536-(out.length:Int)<zn
    ·have Hn:=Qh (show N=([],6) by have:=Hg2.out;rw [if_pos hlm] at this;exact this.symm)
     have d5:decide (65536-(out.length:Int)<zn)=true:=Qt hlm
     clear g1 g2 g3 g4 hs0 hof hin hlm Hg1 Hg2
     have u1:=cell_regrown u0
     have y0:(wr.alloc (.cells #[.int .i64 ((m:Int)+1),.int .i64 (zo),.int .i64 (zn)] 134)).cell? ⟨wr.heap.size,0,none⟩=some (.int .i64 ((m:Int)+1)):=by simp
     have y1:(wr.alloc (.cells #[.int .i64 ((m:Int)+1),.int .i64 (zo),.int .i64 (zn)] 134)).cell? ⟨wr.heap.size,1,none⟩=some (.int .i64 (zo)):=by simp
     have y2:(wr.alloc (.cells #[.int .i64 ((m:Int)+1),.int .i64 (zo),.int .i64 (zn)] 134)).cell? ⟨wr.heap.size,2,none⟩=some (.int .i64 (zn)):=by simp
     have hb1:=hb.alloc hb.size (.cells #[.int .i64 ((m:Int)+1),.int .i64 (zo),.int .i64 (zn)] 134)
     go_wp2_with fail
     have z0:=cell_regrown y0
     have z1:=cell_regrown y1
     have z2:=cell_regrown y2
     refine wp_region_quiet_below (by kernel_rfl) (by kernel_rfl) ?_
     repeat (go_big_quiet_step ((fail)))
     refine wpQuiet_nil ?_
     intro w2 hwq
     have hb2:Below ((wr.alloc (.cells #[.int .i64 ((m:Int)+1),.int .i64 (zo),.int .i64 (zn)] 134))).heap.size ((wr.alloc (.cells #[.int .i64 ((m:Int)+1),.int .i64 (zo),.int .i64 (zn)] 134))) w2:=by
      obtain ⟨pq,rfl⟩:=hwq
      exact below_regrown _ _ _
     clear hwq
     replace y0:=Xaa hb2 y0
     replace y1:=Xaa hb2 y1
     replace y2:=Xaa hb2 y2
     clear z0 z1 z2
     go_wp2
     go_ret2
     rw [Hn.out]
     exact ⟨rfl,hb1.trans (hb2.mono hb1.size)⟩
    have d5:decide (65536-(out.length:Int)<zn)=false:=Qf (by omega)
    have u1:=cell_regrown u0
    have hzr:0≤zo∧0≤zn∧zo+zn≤(u.length:Int)∧zn+(out.length:Int)≤65536:=by omega
    have Hzr:=Qh hzr
    have Hn0:=Qh (show getG st (l.drop (k+1)) (out++(u.drop zo.toNat).take zn.toNat)=N by have:=Hg2.out;rwa [if_neg hlm] at this)
    clear g1 g2 g3 g4 hs0 hof hin hlm Hg1 Hg2 hzr
    have y0:(wr.alloc (.cells #[.int .i64 ((m:Int)+1),.int .i64 (zo),.int .i64 (zn)] 134)).cell? ⟨wr.heap.size,0,none⟩=some (.int .i64 ((m:Int)+1)):=by simp
    have y1:(wr.alloc (.cells #[.int .i64 ((m:Int)+1),.int .i64 (zo),.int .i64 (zn)] 134)).cell? ⟨wr.heap.size,1,none⟩=some (.int .i64 (zo)):=by simp
    have y2:(wr.alloc (.cells #[.int .i64 ((m:Int)+1),.int .i64 (zo),.int .i64 (zn)] 134)).cell? ⟨wr.heap.size,2,none⟩=some (.int .i64 (zn)):=by simp
    have hb1:=hb.alloc hb.size (.cells #[.int .i64 ((m:Int)+1),.int .i64 (zo),.int .i64 (zn)] 134)
    go_wp2_with fail
    have z0:=cell_regrown y0
    have z1:=cell_regrown y1
    have z2:=cell_regrown y2
    refine wp_region_quiet_below (by kernel_rfl) (by kernel_rfl) ?_
    repeat (go_big_quiet_step ((fail)))
    refine wpQuiet_nil ?_
    intro w2 hwq
    have hb2:Below ((wr.alloc (.cells #[.int .i64 ((m:Int)+1),.int .i64 (zo),.int .i64 (zn)] 134))).heap.size ((wr.alloc (.cells #[.int .i64 ((m:Int)+1),.int .i64 (zo),.int .i64 (zn)] 134))) w2:=by
     obtain ⟨pq,rfl⟩:=hwq
     exact below_regrown _ _ _
    clear hwq
    replace y0:=Xaa hb2 y0
    replace y1:=Xaa hb2 y1
    replace y2:=Xaa hb2 y2
    clear z0 z1 z2
    replace u0:=Xaa hb2 u0
    have hb2':=hb1.trans (hb2.mono hb1.size)
    go_wp2_with fail
    have hzr:=Hzr.out
    obtain ⟨q,rfl⟩:∃q:Nat,zn=(q:Int):=⟨zn.toNat,by omega⟩
    obtain ⟨r,rfl⟩:∃r:Nat,zo=(r:Int):=⟨zo.toNat,by omega⟩
    have hql:q+out.length≤65536:=by omega
    have hrq:r+q≤u.length:=by omega
    have Hn:=Qh (show getG st (l.drop (k+1)) (out++(u.drop r).take q)=N by have:=Hn0.out;rwa [Int.toNat_natCast,Int.toNat_natCast] at this)
    have m7:IntKind.i64.wrap ((r:Int)+(q:Int))=(r:Int)+(q:Int):=IntWalk.i64_in _ (by omega)
    have i2:(0:Int)≤r:=by omega
    have i3:(r:Int)≤(r:Int)+q:=by omega
    have i4:(r:Int)+q≤u.length:=by omega
    clear hzr Hzr Hn0 d5 d6 d7 m8 m9
    have u3:=cell_regrown u0
    have z0:=cell_regrown y0
    have z1:=cell_regrown y1
    have z2:=cell_regrown y2
    refine wp_region_quiet_below (by kernel_rfl) (by kernel_rfl) ?_
    repeat (go_big_quiet_step ((fail)))
    refine wpQuiet_nil ?_
    intro w3 hwq
    have hb3:Below (w2).heap.size (w2) w3:=by
     obtain ⟨pq,rfl⟩:=hwq
     exact below_regrown _ _ _
    clear hwq
    go_wp2
    go_roundw
    case rel=>exact ⟨k+1,out++(u.drop r).take q,by omega,by go_num,by simp [S],by simp;omega,Hn.out,hb2'.trans (hb3.mono hb2'.size)⟩
    case measure=>simp [intOf];omega
  ·have Hn:=Qh (show N=(out,0) by have:=Hr.out;rw [List.drop_of_length_le (by omega)] at this;exact this.symm)
   go_wp2
   go_ret2
   rw [Hn.out]
   exact ⟨rfl,hb⟩
end Go.Proofs.YtdodihnehppnmaaGreatDoor
