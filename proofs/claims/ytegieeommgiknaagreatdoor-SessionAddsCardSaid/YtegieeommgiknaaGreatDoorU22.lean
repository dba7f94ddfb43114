/- Lemmas for the claim's theorem;conditions: as each says. -/
import Derived.Test.YtegieeommgiknaaGreatDoorU19
import Derived.Lib.AppendStr
import Derived.Lib.AppendZeros
import Derived.Laws.BytesArg
set_option maxHeartbeats 0
set_option maxRecDepth 100000
set_option linter.all false
namespace Go.Proofs.YtegieeommgiknaaGreatDoor
open Go.RowKit
variable{W:World}{st:List af}{x:Xt}{I:IH}{B:Nat}{s:af}{la:Nat}{fin:Value→World→Prop}{v:Value}{w:World}
theorem Xpy(n:Nat)(hn:n≤65536):∃ZZ:Array Value,(∀W,(Instr.makeSlice 144 (.int .i64 (n:Int)) (.int .i64 (n:Int))).run Tryz.prog W= .ok (.slice (some ⟨W.heap.size,0,none⟩) n n) (W.alloc (.cells ZZ 5)))∧
 ∀W:World,(convert 144 9 (.slice (some ⟨W.heap.size,0,none⟩) n n)).run Tryz.prog (W.alloc (.cells ZZ 5))= .ok (S (List.replicate n 0)) (W.alloc (.cells ZZ 5)):=by
 obtain⟨i,h1,h2,h3,h4⟩:=info_parts U0;refine⟨madeCells (Value.int .u8 0).cells (n*i.size),fun W=> ?_,fun W=> ?_⟩
 ·have:=run_make (P:=Tryz.prog) W 144 5 i _ Tryz.underlying144 h1 h2 .i64 .i64 (n:Int) (n:Int) (by omega) (by omega) (by rw[h4];omega) (by omega);simpa using this
 ·rw[h3,Nat.mul_one,run_convert_bytes_string _ _ _ 5 _ _ _ Tryz.underlying144 Tryz.underlying5 Tryz.underlying9,run_bytesToString (ns:=List.replicate n 0)]
  ·rw[Xo4];simp
  ·have h:=run_loadCells_list (P:=Tryz.prog) (W.alloc (.cells (madeCells (Value.int .u8 0).cells n) 5)) ⟨W.heap.size,0,none⟩ ((List.replicate n (0:Int)).map (Value.int .u8)) (fun j u hu=>by
    rw[Addr.add_lit,Nat.zero_add,World.cell?_alloc_new,←Array.getElem?_toList];rw[show(Value.int .u8 0).cells=#[Value.int .u8 0]from rfl,toList_madeCells_one];simpa using hu)
   rw[List.length_map,List.length_replicate]at h;exact h
theorem Xmi{l:List Xt}{k:Nat}{out:af}{N:af×Int}(hk:k<l.length)(hx:l[k]=x)(h:lH st (l.drop k) out=N):
 (if zU st x=true then([],2)else if 0<x.s∧(((lZ st x).length:Int)<x.o∨((lZ st x).length:Int)-x.o<x.n)then([],2)else if 65536-(out.length:Int)<x.n then([],6)
 else lH st (l.drop (k+1)) (out++if x.s=0 then List.replicate x.n.toNat 0 else((lZ st x).drop x.o.toNat).take x.n.toNat))=N:=by
 rw[List.drop_eq_getElem_cons hk,hx,lH]at h;exact h
theorem Kb(h:x.n<0∨x.o<0∨x.s<0∨(st.length:Int)<x.s∨(x.s=0∧x.o≠0)):zU st x=true:=by
 unfold zU;rcases h with h|h|h|h|⟨h1,h2⟩
 ·rw[Qt h];simp
 ·rw[Qt h];simp
 ·rw[Qt h];simp
 ·rw[Qt h];simp
 ·simp[h1,h2]
theorem Sj(h1:¬x.n<0)(h2:¬x.o<0)(h3:¬x.s<0)(h4:¬(st.length:Int)<x.s)(h5:¬(x.s=0∧x.o≠0)):zU st x=false:=by
 unfold zU;rw[Qf h1,Qf h2,Qf h3,Qf h4];simpa using h5
theorem Xr4(I:IH)(vs vl:Value)(st:List af)(l:List Xt)(fV:aZ iE I vs st)(Mt:aZ mU I vl l)(jO:∀s∈st,s.length≤9223372036854775807)(w:World)(hw:Ok I w):
 Calls Tryz.prog 56 #[vs,vl] w fun e w'=>e= .returned (.tuple #[S (tF st l).1,.int .i64 (tF st l).2])∧Below w.heap.size w w':=by
 have WT:=fV.bL;have Cg:=Mt.bL;obtain⟨as0,cs0,rfl,_,_,_⟩:=id fV;obtain⟨al,cl,rfl,_,_,_⟩:=id Mt;have ma:=Qh fV;have Hvl:=Qh Mt;have bI:=Qh jO;obtain⟨N,hN⟩:∃N,tF st l=N:=⟨_,rfl⟩;have HN:=Qh (show lH st (l.drop 0) []=N from hN);rw[hN];clear fV Mt jO hN;go_enter Tryz.func56,Tryz.ntmps56
 go_wp2_with fail
 go_loopw [6,7] (fun s6 s7 wr=> ∃(k:Nat) (out:af),k≤l.length∧s7= .int .i64 k∧s6=S out∧out.length≤65536∧lH st (l.drop k) out=N∧Below w.heap.size w wr) (fun _ i _=>l.length-(intOf i).toNat)
 case atStart=>exact⟨0,[],Nat.zero_le _,rfl,rfl,by simp,HN.O,Qb _ _⟩
 case round=>
  clear HN;obtain⟨k,out,hk,rfl,rfl,Gt,hr,hb⟩:=hrel;have Hr:=Qh hr;have iZ:Ok I wr:=hw.below (Qn _) hb;clear hr;by_cases hlt:k<l.length
  ·obtain⟨x,b,off,cap',cB,dC,x0,x1,x2⟩:=vg Hvl.O iZ k hlt;cases dC;have Hg:=Qh (Xmi hlt cB Hr.O);clear cB Hr;obtain⟨zs,zo,zn⟩:=x;dsimp only at x0 x1 x2;have m65:IntKind.i64.wrap (65536-(out.length:Int))=65536-(out.length:Int):=IntWalk.i64_in _ (by omega);by_cases g1:zn<0
   ·have Hn:=Qh (show N=([],2) by have:=Hg.O;rw[if_pos (Kb (x:=⟨zs,zo,zn⟩) (.inl g1))]at this;exact this.symm);have d1:decide (zn<0)=true:=Qt g1;clear g1;have y0:(wr.alloc (.cells #[.int .i64 (zs),.int .i64 (zo),.int .i64 (zn)] 65)).cell? ⟨wr.heap.size,0,none⟩=some (.int .i64 (zs)):=by simp
    have y1:(wr.alloc (.cells #[.int .i64 (zs),.int .i64 (zo),.int .i64 (zn)] 65)).cell? ⟨wr.heap.size,1,none⟩=some (.int .i64 (zo)):=by simp
    have y2:(wr.alloc (.cells #[.int .i64 (zs),.int .i64 (zo),.int .i64 (zn)] 65)).cell? ⟨wr.heap.size,2,none⟩=some (.int .i64 (zn)):=by simp
    have aG:=hb.alloc hb.size (.cells #[.int .i64 (zs),.int .i64 (zo),.int .i64 (zn)] 65);go_wp2;go_ret2;rw[Hn.O];exact⟨rfl,aG⟩
   have d1:decide (zn<0)=false:=Qf g1;by_cases g2:zo<0
   ·have Hn:=Qh (show N=([],2) by have:=Hg.O;rw[if_pos (Kb (x:=⟨zs,zo,zn⟩) (.inr (.inl g2)))]at this;exact this.symm);have d2:decide (zo<0)=true:=Qt g2;clear g1 g2;have y0:(wr.alloc (.cells #[.int .i64 (zs),.int .i64 (zo),.int .i64 (zn)] 65)).cell? ⟨wr.heap.size,0,none⟩=some (.int .i64 (zs)):=by simp
    have y1:(wr.alloc (.cells #[.int .i64 (zs),.int .i64 (zo),.int .i64 (zn)] 65)).cell? ⟨wr.heap.size,1,none⟩=some (.int .i64 (zo)):=by simp
    have y2:(wr.alloc (.cells #[.int .i64 (zs),.int .i64 (zo),.int .i64 (zn)] 65)).cell? ⟨wr.heap.size,2,none⟩=some (.int .i64 (zn)):=by simp
    have aG:=hb.alloc hb.size (.cells #[.int .i64 (zs),.int .i64 (zo),.int .i64 (zn)] 65);go_wp2;go_ret2;rw[Hn.O];exact⟨rfl,aG⟩
   have d2:decide (zo<0)=false:=Qf g2;by_cases g3:zs<0
   ·have Hn:=Qh (show N=([],2) by have:=Hg.O;rw[if_pos (Kb (x:=⟨zs,zo,zn⟩) (.inr (.inr (.inl g3))))]at this;exact this.symm);have d3:decide (zs<0)=true:=Qt g3;clear g1 g2 g3;have y0:(wr.alloc (.cells #[.int .i64 (zs),.int .i64 (zo),.int .i64 (zn)] 65)).cell? ⟨wr.heap.size,0,none⟩=some (.int .i64 (zs)):=by simp
    have y1:(wr.alloc (.cells #[.int .i64 (zs),.int .i64 (zo),.int .i64 (zn)] 65)).cell? ⟨wr.heap.size,1,none⟩=some (.int .i64 (zo)):=by simp
    have y2:(wr.alloc (.cells #[.int .i64 (zs),.int .i64 (zo),.int .i64 (zn)] 65)).cell? ⟨wr.heap.size,2,none⟩=some (.int .i64 (zn)):=by simp
    have aG:=hb.alloc hb.size (.cells #[.int .i64 (zs),.int .i64 (zo),.int .i64 (zn)] 65);go_wp2;go_ret2;rw[Hn.O];exact⟨rfl,aG⟩
   have d3:decide (zs<0)=false:=Qf g3;by_cases g4:(st.length:Int)<zs
   ·have Hn:=Qh (show N=([],2) by have:=Hg.O;rw[if_pos (Kb (x:=⟨zs,zo,zn⟩) (.inr (.inr (.inr (.inl g4)))))]at this;exact this.symm);have d4:decide ((st.length:Int)<zs)=true:=Qt g4;clear g1 g2 g3 g4;have y0:(wr.alloc (.cells #[.int .i64 (zs),.int .i64 (zo),.int .i64 (zn)] 65)).cell? ⟨wr.heap.size,0,none⟩=some (.int .i64 (zs)):=by simp
    have y1:(wr.alloc (.cells #[.int .i64 (zs),.int .i64 (zo),.int .i64 (zn)] 65)).cell? ⟨wr.heap.size,1,none⟩=some (.int .i64 (zo)):=by simp
    have y2:(wr.alloc (.cells #[.int .i64 (zs),.int .i64 (zo),.int .i64 (zn)] 65)).cell? ⟨wr.heap.size,2,none⟩=some (.int .i64 (zn)):=by simp
    have aG:=hb.alloc hb.size (.cells #[.int .i64 (zs),.int .i64 (zo),.int .i64 (zn)] 65);go_wp2;go_ret2;rw[Hn.O];exact⟨rfl,aG⟩
   have d4:decide ((st.length:Int)<zs)=false:=Qf g4;have E9:(0:Int)≤zn:=by omega
   by_cases ky:zs=0
   ·have e1:(zs==0)=true:=by simpa using ky
    have e2:decide (0<zs)=false:=Qf (by omega);by_cases El:zo=0;case neg=>
     have Hn:=Qh (show N=([],2) by have:=Hg.O;rw[if_pos (Kb (x:=⟨zs,zo,zn⟩) (.inr (.inr (.inr (.inr ⟨ky,El⟩)))))]at this;exact this.symm);have e3:(zo !=0)=true:=by simpa using El
     clear g1 g2 g3 g4 ky El;have y0:(wr.alloc (.cells #[.int .i64 (zs),.int .i64 (zo),.int .i64 (zn)] 65)).cell? ⟨wr.heap.size,0,none⟩=some (.int .i64 (zs)):=by simp
     have y1:(wr.alloc (.cells #[.int .i64 (zs),.int .i64 (zo),.int .i64 (zn)] 65)).cell? ⟨wr.heap.size,1,none⟩=some (.int .i64 (zo)):=by simp
     have y2:(wr.alloc (.cells #[.int .i64 (zs),.int .i64 (zo),.int .i64 (zn)] 65)).cell? ⟨wr.heap.size,2,none⟩=some (.int .i64 (zn)):=by simp
     have aG:=hb.alloc hb.size (.cells #[.int .i64 (zs),.int .i64 (zo),.int .i64 (zn)] 65);go_wp2;go_ret2;rw[Hn.O];exact⟨rfl,aG⟩
    have e3:(zo !=0)=false:=by simpa using El
    have xR:=Qh (show(if 65536-(out.length:Int)<zn then(([],6):af×Int)else lH st (l.drop (k+1)) (out++List.replicate zn.toNat 0))=N by
     have h:=Hg.O;dsimp only at h;rw[if_neg (by rw[Sj (x:=⟨zs,zo,zn⟩) g1 g2 g3 g4 (fun h=>h.2 El)];simp),if_neg (by omega),if_pos ky]at h;exact h)
    by_cases ol:65536-(out.length:Int)<zn
    ·have Hn:=Qh (show N=([],6) by have:=xR.O;rw[if_pos ol]at this;exact this.symm);have d5:decide (65536-(out.length:Int)<zn)=true:=Qt ol;clear g1 g2 g3 g4 ky El ol Hg xR;have y0:(wr.alloc (.cells #[.int .i64 (zs),.int .i64 (zo),.int .i64 (zn)] 65)).cell? ⟨wr.heap.size,0,none⟩=some (.int .i64 (zs)):=by simp
     have y1:(wr.alloc (.cells #[.int .i64 (zs),.int .i64 (zo),.int .i64 (zn)] 65)).cell? ⟨wr.heap.size,1,none⟩=some (.int .i64 (zo)):=by simp
     have y2:(wr.alloc (.cells #[.int .i64 (zs),.int .i64 (zo),.int .i64 (zn)] 65)).cell? ⟨wr.heap.size,2,none⟩=some (.int .i64 (zn)):=by simp
     have aG:=hb.alloc hb.size (.cells #[.int .i64 (zs),.int .i64 (zo),.int .i64 (zn)] 65);go_wp2_with fail
     have z0:=cell_regrown y0;have z1:=cell_regrown y1;have z2:=cell_regrown y2;refine wp_region_quiet_below (by kernel_rfl) (by kernel_rfl) ?_;repeat(go_big_quiet_step ((fail)))
     refine wpQuiet_nil ?_;intro w2 bJ;have aL:Below ((wr.alloc (.cells #[.int .i64 (zs),.int .i64 (zo),.int .i64 (zn)] 65))).heap.size ((wr.alloc (.cells #[.int .i64 (zs),.int .i64 (zo),.int .i64 (zn)] 65))) w2:=by
      obtain⟨pq,rfl⟩:=bJ;exact below_regrown _ _ _
     clear bJ;replace y0:=aV aL y0;replace y1:=aV aL y1;replace y2:=aV aL y2;clear z0 z1 z2;go_wp2;go_ret2;rw[Hn.O];exact⟨rfl,aG.trans (aL.mono aG.size)⟩
    ·obtain⟨q,rfl⟩:∃q:Nat,zn=(q:Int):=⟨zn.toNat,by omega⟩;have Uq:q+out.length≤65536:=by omega
     have Hn:=Qh (show lH st (l.drop (k+1)) (out++List.replicate q 0)=N by have:=xR.O;rw[if_neg ol,Int.toNat_natCast]at this;exact this);have d5:decide (65536-(out.length:Int)<(q:Int))=false:=Qf (by omega);obtain⟨ZZ,kr,Td⟩:=Xpy q (by omega);clear g1 g2 g3 g4 ky El ol Hg xR;have y0:(wr.alloc (.cells #[.int .i64 (zs),.int .i64 (zo),.int .i64 ((q:Int))] 65)).cell? ⟨wr.heap.size,0,none⟩=some (.int .i64 (zs)):=by simp
     have y1:(wr.alloc (.cells #[.int .i64 (zs),.int .i64 (zo),.int .i64 ((q:Int))] 65)).cell? ⟨wr.heap.size,1,none⟩=some (.int .i64 (zo)):=by simp
     have y2:(wr.alloc (.cells #[.int .i64 (zs),.int .i64 (zo),.int .i64 ((q:Int))] 65)).cell? ⟨wr.heap.size,2,none⟩=some (.int .i64 ((q:Int))):=by simp
     have aG:=hb.alloc hb.size (.cells #[.int .i64 (zs),.int .i64 (zo),.int .i64 ((q:Int))] 65);go_wp2_with fail
     have z0:=cell_regrown y0;have z1:=cell_regrown y1;have z2:=cell_regrown y2;refine wp_region_quiet_below (by kernel_rfl) (by kernel_rfl) ?_;repeat(go_big_quiet_step ((fail)))
     refine wpQuiet_nil ?_;intro w2 bJ;have aL:Below ((wr.alloc (.cells #[.int .i64 (zs),.int .i64 (zo),.int .i64 ((q:Int))] 65))).heap.size ((wr.alloc (.cells #[.int .i64 (zs),.int .i64 (zo),.int .i64 ((q:Int))] 65))) w2:=by
      obtain⟨pq,rfl⟩:=bJ;exact below_regrown _ _ _
     clear bJ;replace y0:=aV aL y0;replace y1:=aV aL y1;replace y2:=aV aL y2;clear z0 z1 z2;have bH:=aG.trans (aL.mono aG.size);have aq5:=Td w2;have aq6:=kr w2;go_wp2;go_roundw;case rel=>exact⟨k+1,_,by omega,by go_num,rfl,by simp;omega,Hn.O,bH.alloc bH.size _⟩
     case measure=>simp[intOf];omega
   ·obtain⟨m,rfl⟩:∃m:Nat,zs=(m:Int)+1:=⟨(zs-1).toNat,by omega⟩;have Ap:m<st.length:=by omega
    obtain⟨u,bu,aq7,aq8,PX,dC,u0⟩:=Fy ma.O (iZ.alloc (.cells #[.int .i64 ((m:Int)+1),.int .i64 zo,.int .i64 zn] 65)) m Ap;cases dC;have hul:=bI.O u (by rw[←PX];exact List.getElem_mem Ap);have Xe:lZ st ⟨(m:Int)+1,zo,zn⟩=u:=by
     show st.getD (((m:Int)+1-1).toNat) []=u;rw[show((m:Int)+1-1).toNat=m by omega];simp[List.getD,Ap,PX]
    have e1:(((m:Int)+1)==0)=false:=by simpa using ky
    have e2:decide ((0:Int)<(m:Int)+1)=true:=Qt (by omega);have i1:(m:Int)<st.length:=by omega
    have xB:=Qh (show(if 0<(m:Int)+1∧((u.length:Int)<zo∨(u.length:Int)-zo<zn)then(([],2):af×Int)else if 65536-(out.length:Int)<zn then([],6)else lH st (l.drop (k+1)) (out++(u.drop zo.toNat).take zn.toNat))=N by
     have h:=Hg.O;dsimp only at h;rw[if_neg (by rw[Sj (x:=⟨(m:Int)+1,zo,zn⟩) g1 g2 g3 g4 (fun h=>ky h.1)];simp),Xe]at h;rw[←h];simp only[if_neg ky])
    clear Hg Xe PX;by_cases Em:(u.length:Int)<zo
    ·have Hn:=Qh (show N=([],2) by have:=xB.O;rw[if_pos ⟨by omega,.inl Em⟩]at this;exact this.symm);have d6:decide ((u.length:Int)<zo)=true:=Qt Em;clear g1 g2 g3 g4 ky Em xB;have u1:=cell_regrown u0;have y0:(wr.alloc (.cells #[.int .i64 ((m:Int)+1),.int .i64 (zo),.int .i64 (zn)] 65)).cell? ⟨wr.heap.size,0,none⟩=some (.int .i64 ((m:Int)+1)):=by simp
     have y1:(wr.alloc (.cells #[.int .i64 ((m:Int)+1),.int .i64 (zo),.int .i64 (zn)] 65)).cell? ⟨wr.heap.size,1,none⟩=some (.int .i64 (zo)):=by simp
     have y2:(wr.alloc (.cells #[.int .i64 ((m:Int)+1),.int .i64 (zo),.int .i64 (zn)] 65)).cell? ⟨wr.heap.size,2,none⟩=some (.int .i64 (zn)):=by simp
     have aG:=hb.alloc hb.size (.cells #[.int .i64 ((m:Int)+1),.int .i64 (zo),.int .i64 (zn)] 65);go_wp2_with fail
     have z0:=cell_regrown y0;have z1:=cell_regrown y1;have z2:=cell_regrown y2;refine wp_region_quiet_below (by kernel_rfl) (by kernel_rfl) ?_;repeat(go_big_quiet_step ((fail)))
     refine wpQuiet_nil ?_;intro w2 bJ;have aL:Below ((wr.alloc (.cells #[.int .i64 ((m:Int)+1),.int .i64 (zo),.int .i64 (zn)] 65))).heap.size ((wr.alloc (.cells #[.int .i64 ((m:Int)+1),.int .i64 (zo),.int .i64 (zn)] 65))) w2:=by
      obtain⟨pq,rfl⟩:=bJ;exact below_regrown _ _ _
     clear bJ;replace y0:=aV aL y0;replace y1:=aV aL y1;replace y2:=aV aL y2;clear z0 z1 z2;go_wp2;go_ret2;rw[Hn.O];exact⟨rfl,aG.trans (aL.mono aG.size)⟩
    have d6:decide ((u.length:Int)<zo)=false:=Qf Em;have m8:IntKind.i64.wrap ((u.length:Int)-zo)=(u.length:Int)-zo:=IntWalk.i64_in _ (by omega);have m9:wrap64 ((u.length:Int)-zo)=(u.length:Int)-zo:=by unfold wrap64;omega
    by_cases vM:(u.length:Int)-zo<zn
    ·have Hn:=Qh (show N=([],2) by have:=xB.O;rw[if_pos ⟨by omega,.inr vM⟩]at this;exact this.symm);have d7:decide ((u.length:Int)-zo<zn)=true:=Qt vM;clear g1 g2 g3 g4 ky Em vM xB;have u1:=cell_regrown u0;have y0:(wr.alloc (.cells #[.int .i64 ((m:Int)+1),.int .i64 (zo),.int .i64 (zn)] 65)).cell? ⟨wr.heap.size,0,none⟩=some (.int .i64 ((m:Int)+1)):=by simp
     have y1:(wr.alloc (.cells #[.int .i64 ((m:Int)+1),.int .i64 (zo),.int .i64 (zn)] 65)).cell? ⟨wr.heap.size,1,none⟩=some (.int .i64 (zo)):=by simp
     have y2:(wr.alloc (.cells #[.int .i64 ((m:Int)+1),.int .i64 (zo),.int .i64 (zn)] 65)).cell? ⟨wr.heap.size,2,none⟩=some (.int .i64 (zn)):=by simp
     have aG:=hb.alloc hb.size (.cells #[.int .i64 ((m:Int)+1),.int .i64 (zo),.int .i64 (zn)] 65);go_wp2_with fail
     have z0:=cell_regrown y0;have z1:=cell_regrown y1;have z2:=cell_regrown y2;refine wp_region_quiet_below (by kernel_rfl) (by kernel_rfl) ?_;repeat(go_big_quiet_step ((fail)))
     refine wpQuiet_nil ?_;intro w2 bJ;have aL:Below ((wr.alloc (.cells #[.int .i64 ((m:Int)+1),.int .i64 (zo),.int .i64 (zn)] 65))).heap.size ((wr.alloc (.cells #[.int .i64 ((m:Int)+1),.int .i64 (zo),.int .i64 (zn)] 65))) w2:=by
      obtain⟨pq,rfl⟩:=bJ;exact below_regrown _ _ _
     clear bJ;replace y0:=aV aL y0;replace y1:=aV aL y1;replace y2:=aV aL y2;clear z0 z1 z2;go_wp2;go_ret2;rw[Hn.O];exact⟨rfl,aG.trans (aL.mono aG.size)⟩
    have d7:decide ((u.length:Int)-zo<zn)=false:=Qf vM;have xR:=Qh (show(if 65536-(out.length:Int)<zn then(([],6):af×Int)else lH st (l.drop (k+1)) (out++(u.drop zo.toNat).take zn.toNat))=N by
     have h:=xB.O;rw[if_neg (by omega)]at h;exact h)
    by_cases ol:65536-(out.length:Int)<zn
    ·have Hn:=Qh (show N=([],6) by have:=xR.O;rw[if_pos ol]at this;exact this.symm);have d5:decide (65536-(out.length:Int)<zn)=true:=Qt ol;clear g1 g2 g3 g4 ky Em vM ol xB xR;have u1:=cell_regrown u0;have y0:(wr.alloc (.cells #[.int .i64 ((m:Int)+1),.int .i64 (zo),.int .i64 (zn)] 65)).cell? ⟨wr.heap.size,0,none⟩=some (.int .i64 ((m:Int)+1)):=by simp
     have y1:(wr.alloc (.cells #[.int .i64 ((m:Int)+1),.int .i64 (zo),.int .i64 (zn)] 65)).cell? ⟨wr.heap.size,1,none⟩=some (.int .i64 (zo)):=by simp
     have y2:(wr.alloc (.cells #[.int .i64 ((m:Int)+1),.int .i64 (zo),.int .i64 (zn)] 65)).cell? ⟨wr.heap.size,2,none⟩=some (.int .i64 (zn)):=by simp
     have aG:=hb.alloc hb.size (.cells #[.int .i64 ((m:Int)+1),.int .i64 (zo),.int .i64 (zn)] 65);go_wp2_with fail
     have z0:=cell_regrown y0;have z1:=cell_regrown y1;have z2:=cell_regrown y2;refine wp_region_quiet_below (by kernel_rfl) (by kernel_rfl) ?_;repeat(go_big_quiet_step ((fail)))
     refine wpQuiet_nil ?_;intro w2 bJ;have aL:Below ((wr.alloc (.cells #[.int .i64 ((m:Int)+1),.int .i64 (zo),.int .i64 (zn)] 65))).heap.size ((wr.alloc (.cells #[.int .i64 ((m:Int)+1),.int .i64 (zo),.int .i64 (zn)] 65))) w2:=by
      obtain⟨pq,rfl⟩:=bJ;exact below_regrown _ _ _
     clear bJ;replace y0:=aV aL y0;replace y1:=aV aL y1;replace y2:=aV aL y2;clear z0 z1 z2;go_wp2;go_ret2;rw[Hn.O];exact⟨rfl,aG.trans (aL.mono aG.size)⟩
    have d5:decide (65536-(out.length:Int)<zn)=false:=Qf (by omega);have u1:=cell_regrown u0;have Sk:0≤zo∧0≤zn∧zo+zn≤(u.length:Int)∧zn+(out.length:Int)≤65536:=by omega
    have Hzr:=Qh Sk;have BS:=Qh (show lH st (l.drop (k+1)) (out++(u.drop zo.toNat).take zn.toNat)=N by have:=xR.O;rwa[if_neg ol]at this);clear g1 g2 g3 g4 ky Em vM ol xB xR Sk;have y0:(wr.alloc (.cells #[.int .i64 ((m:Int)+1),.int .i64 (zo),.int .i64 (zn)] 65)).cell? ⟨wr.heap.size,0,none⟩=some (.int .i64 ((m:Int)+1)):=by simp
    have y1:(wr.alloc (.cells #[.int .i64 ((m:Int)+1),.int .i64 (zo),.int .i64 (zn)] 65)).cell? ⟨wr.heap.size,1,none⟩=some (.int .i64 (zo)):=by simp
    have y2:(wr.alloc (.cells #[.int .i64 ((m:Int)+1),.int .i64 (zo),.int .i64 (zn)] 65)).cell? ⟨wr.heap.size,2,none⟩=some (.int .i64 (zn)):=by simp
    have aG:=hb.alloc hb.size (.cells #[.int .i64 ((m:Int)+1),.int .i64 (zo),.int .i64 (zn)] 65);go_wp2_with fail
    have z0:=cell_regrown y0;have z1:=cell_regrown y1;have z2:=cell_regrown y2;refine wp_region_quiet_below (by kernel_rfl) (by kernel_rfl) ?_;repeat(go_big_quiet_step ((fail)))
    refine wpQuiet_nil ?_;intro w2 bJ;have aL:Below ((wr.alloc (.cells #[.int .i64 ((m:Int)+1),.int .i64 (zo),.int .i64 (zn)] 65))).heap.size ((wr.alloc (.cells #[.int .i64 ((m:Int)+1),.int .i64 (zo),.int .i64 (zn)] 65))) w2:=by
     obtain⟨pq,rfl⟩:=bJ;exact below_regrown _ _ _
    clear bJ;replace y0:=aV aL y0;replace y1:=aV aL y1;replace y2:=aV aL y2;clear z0 z1 z2;replace u0:=aV aL u0;have bH:=aG.trans (aL.mono aG.size);go_wp2_with fail
    have Sk:=Hzr.O;obtain⟨q,rfl⟩:∃q:Nat,zn=(q:Int):=⟨zn.toNat,by omega⟩;obtain⟨r,rfl⟩:∃r:Nat,zo=(r:Int):=⟨zo.toNat,by omega⟩;have Uq:q+out.length≤65536:=by omega
    have hrq:r+q≤u.length:=by omega
    have Hn:=Qh (show lH st (l.drop (k+1)) (out++(u.drop r).take q)=N by have:=BS.O;rwa[Int.toNat_natCast,Int.toNat_natCast]at this);have m7:IntKind.i64.wrap ((r:Int)+(q:Int))=(r:Int)+(q:Int):=IntWalk.i64_in _ (by omega);have i2:(0:Int)≤r:=by omega
    have i3:(r:Int)≤(r:Int)+q:=by omega
    have i4:(r:Int)+q≤u.length:=by omega
    clear Sk Hzr BS d5 d6 d7 m8 m9;have u3:=cell_regrown u0;have z0:=cell_regrown y0;have z1:=cell_regrown y1;have z2:=cell_regrown y2;refine wp_region_quiet_below (by kernel_rfl) (by kernel_rfl) ?_;repeat(go_big_quiet_step ((fail)))
    refine wpQuiet_nil ?_;intro w3 bJ;have dO:Below (w2).heap.size (w2) w3:=by
     obtain⟨pq,rfl⟩:=bJ;exact below_regrown _ _ _
    clear bJ;go_wp2;go_roundw;case rel=>exact⟨k+1,out++(u.drop r).take q,by omega,by go_num,by simp[S],by simp;omega,Hn.O,bH.trans (dO.mono bH.size)⟩
    case measure=>simp[intOf];omega
  ·have Hn:=Qh (show N=(out,0) by have:=Hr.O;rw[List.drop_of_length_le (by omega)]at this;exact this.symm);go_wp2;go_ret2;rw[Hn.O];exact⟨rfl,hb⟩
def ints(s:af):List Int:=s.map fun b=>(b.toNat:Int)
def PY(s:af):List Value:=s.map fun b=> .int .u8 (b.toNat:Int)
theorem Sl(s:af):(ints s).length=s.length:=by simp[ints]
theorem Xpb(s p:af):ints (s++p)=ints s++ints p:=by simp[ints]
theorem Xxf(s:af):Lib.strCells ⟨s.toArray⟩=PY s:=by simp[Lib.strCells,PY]
theorem Xvb(I:IH)(s:af):dF tB I (PY s) (ints s):=by
 refine⟨by simp[PY,ints,tB,Ty.flat],fun i hi=>⟨[.int .u8 (ints s)[i]],rfl,fun j u hu=> ?_⟩⟩;have hj:j=0:=by have:=(List.getElem?_eq_some_iff.1 hu).1;simp at this;exact this
 subst hj;have WJ:i<s.length:=by rw[Sl]at hi;exact hi
 simp at hu;subst hu;show(PY s)[i*1+0]?=_;simp[PY,ints,WJ]
theorem Xrr(s:af):(⟨s.toArray⟩:ByteArray).size=s.length:=by show s.toArray.size=_;simp
theorem Xhw(p:af)(h:aQ tB 5 I W B v (ints s))(hB:B≤W.heap.size)(hl:s.length+p.length≤1000000):
 ∃v' w',(∀ty,(Builtin.append_ #[144,9] ty #[v,S p]).run Tryz.prog W= .ok v' w')∧aQ tB 5 I w' B v' (ints (s++p))∧W.grownBy w' v.ownBlock:=by
 obtain⟨i,h1,h2,h3,h4⟩:=info_parts U0;obtain⟨xs,k1,k2⟩:=h;have e:(⟨p.toArray⟩:ByteArray).size=p.length:=Xrr p;obtain⟨v',w',hr,bU,hg,_⟩:=Lib.run_append_own_string (P:=Tryz.prog) W B 144 9 0 5 i Tryz.underlying144 Tryz.underlying9 h1 h2 h3 h4 v (ints s).length xs k1 ⟨p.toArray⟩ (by rw[e,Sl];unfold maxLen;omega) (by rw[e,Sl];omega) hB;refine⟨v',w',fun ty=>hr,⟨xs++PY p,?_,?_⟩,hg⟩
 ·rw[Xxf,e]at bU;rw[Xpb,List.length_append,Sl p];exact bU
 ·rw[Xpb];exact k2.append (Xvb I p)
theorem Xnc(q:Nat):Builtin.zeroCells (Value.int .u8 0).cells q=((⟨(List.replicate q (0:UInt8)).toArray⟩:ByteArray).data.map fun b=>Value.int .u8 b.toNat):=by
 apply Array.ext
 ·rw[size_zeroCells];show q*1=_;simp
 ·intro i h1 h2;show((Array.range (q*1)).map fun i=>(#[Value.int .u8 0]:Array Value)[i%1]!)[i]'h1=_;simp[Nat.mod_one]
theorem Xnb(q:Nat)(w':World):(Builtin.firstCells 1 q (.string ⟨(List.replicate q (0:UInt8)).toArray⟩)).run Tryz.prog w'= .ok (Builtin.zeroCells (Value.int .u8 0).cells q) w':=by
 have hf:=Lib.run_firstCells_string (P:=Tryz.prog) w' 1 ⟨(List.replicate q (0:UInt8)).toArray⟩;rw[Xrr,List.length_replicate]at hf;rw[hf,Xnc];simp[Lib.strCells]
theorem Xkb(t tn tu ty e:TypeId)(i:TypeInfo)(kn kq:IntKind)(ht:Tryz.prog.underlying t=some (.slice e))(Te:Tryz.prog.underlying tn=some (.int kn))(ZG:Tryz.prog.underlying tu=some .string)(hi:Tryz.prog.info? e=some i)
 (hz:i.zero=some (.int .u8 0)) (hs:i.size=1) (hb:i.bytes=1) (ao:Option Addr) (n cap q:Nat) (hl:n+q≤1000000) (Z:ByteArray) (e1:Z.size=q)
 (f1:∀w',(Builtin.firstCells 1 q (.string Z)).run Tryz.prog w'= .ok (Builtin.zeroCells (Value.int .u8 0).cells q) w'):
 (Builtin.append_ #[t,tn] ty #[.slice ao n cap,.int kq q]).run Tryz.prog W=(Builtin.append_ #[t,tu] ty #[.slice ao n cap,.string Z]).run Tryz.prog W:=by
 have hw:IntKind.i64.wrap (q:Int)=q:=by rw[IntKind.wrap_i64];omega
 have n1:¬((q:Int)<0):=by omega
 have n2:¬(281474976710656<(q:Int)):=by omega
 have n3:¬(9223372036854775807<((n:Int)+(q:Int))):=by omega
 by_cases tC:n+q≤cap
 ·by_cases hq:q=0
  ·subst hq;have g3:IntKind.i64.wrap 0=0:=rfl;have g4:Builtin.zeroCells (Value.int .u8 0).cells 0=#[]:=Array.eq_empty_of_size_eq_zero (by rw[size_zeroCells];simp);have g5:n≤cap:=tC;simp[Builtin.append_,run_underlying ht,run_underlying Te,run_underlying ZG,sizeOf,typeInfo,zeroValue,hi,hz,hs,hb,Builtin.lenOf,e1,f1,g3,g4,g5,asInt,asIntOf,Question.forced]
  ·simp[Builtin.append_,run_underlying ht,run_underlying Te,run_underlying ZG,sizeOf,typeInfo,zeroValue,hi,hz,hs,hb,Builtin.lenOf,e1,f1,tC,asInt,asIntOf,Question.forced,hw,n1,n2,hq]
 ·have p9:¬(281474976710656<Builtin.nextslicecap (n+q) cap):=by
   have:=growslice_fits (need:=n+q) (old:=cap) (bytes:=1) (by omega) (by omega);omega
  by_cases hq:q=0
  ·subst hq;have g3:IntKind.i64.wrap 0=0:=rfl;have g4:Builtin.zeroCells (Value.int .u8 0).cells 0=#[]:=Array.eq_empty_of_size_eq_zero (by rw[size_zeroCells];simp);have g5:¬n≤cap:=tC;have g6:¬(281474976710656<Builtin.nextslicecap n cap):=p9;have g7:¬(9223372036854775807<(n:Int)):=by omega
   simp[Builtin.append_,run_underlying ht,run_underlying Te,run_underlying ZG,sizeOf,typeInfo,zeroValue,hi,hz,hs,hb,Builtin.lenOf,e1,f1,g3,g4,g5,g6,g7,asInt,asIntOf,Question.forced]
  ·simp[Builtin.append_,run_underlying ht,run_underlying Te,run_underlying ZG,sizeOf,typeInfo,zeroValue,hi,hz,hs,hb,Builtin.lenOf,e1,f1,tC,asInt,asIntOf,Question.forced,hw,n1,n2,hq,p9,n3]
theorem Xkc{ao:Option Addr}{n cap:Nat}(q:Nat)(h:aQ tB 5 I W B (.slice ao n cap) (ints s))(hB:B≤W.heap.size)(hn:n=s.length)(hl:s.length+q≤1000000):
 ∃v' w',(∀ty,(Builtin.append_ #[144,3] ty #[.slice ao n cap,.int .i64 q]).run Tryz.prog W= .ok v' w')∧aQ tB 5 I w' B v' (ints (s++List.replicate q 0))∧W.grownBy w' (Value.slice ao n cap).ownBlock:=by
 obtain⟨v',w',hr,h2,h3⟩:=Xhw (List.replicate q 0) h hB (by simpa using hl);obtain⟨i,h1,k2,k3,k4⟩:=info_parts U0;exact⟨v',w',fun ty=>by
  rw[Xkb 144 3 9 ty 5 i .i64 .i64 Tryz.underlying144 Tryz.underlying3 Tryz.underlying9 h1 k2 k3 k4 ao n cap q (by omega) ⟨(List.replicate q (0:UInt8)).toArray⟩ (by rw[Xrr];simp) (fun w'=>Xnb q w')];exact hr ty,h2,h3⟩
theorem Xti(h:aQ tB 5 I W B v (ints s)):(convert 144 9 v).run Tryz.prog W= .ok (S s) W:=by
 by_cases h0:0<s.length
 ·rw[Xky Tryz.underlying144 Tryz.underlying5 Tryz.underlying9 W h (by rw[Sl];exact h0)];have e:(ints s).map (fun x=>UInt8.ofNat x.toNat)=s:=by
   unfold ints;rw[List.map_map];refine(List.map_congr_left fun b _=> ?_).trans (List.map_id s);simp
  rw[e]
 ·have hs:s=[]:=List.eq_nil_of_length_eq_zero (by omega);subst hs;obtain⟨xs,⟨_,hc⟩,_⟩:=h;rcases hc with⟨rfl,_⟩|⟨g,cap,cur,rfl,_,hg,_,_,_,ht⟩
  ·exact(run_convert_bytes_nil (P:=Tryz.prog) W _ 5 Tryz.underlying144 Tryz.underlying5 0 0 _ Tryz.underlying9).trans rfl
  ·rw[run_convert_bytes_string _ _ _ 5 _ _ _ Tryz.underlying144 Tryz.underlying5 Tryz.underlying9];have:=run_bytesToString (P:=Tryz.prog) W ⟨g,0,none⟩ 0 cap [] (by
    have hc:=run_loadCells_list (P:=Tryz.prog) W ⟨g,0,none⟩ [] (fun j u hu=>by cases hu);simpa using hc)
   exact this.trans rfl
structure Kc (W:World) (la:Nat) (fin:Value→World→Prop) (x:Value) (s:Array Bool) (w:World):Prop where
 eU:s.getD la false=false→Below W.heap.size W w
 fin:s.getD la false=true→fin x w
theorem Kc.start(n:Nat)(x:Value):Kc W la fin x (Array.replicate n false) {W with drawn:=W.drawn+1}:=
 ⟨fun _=>(Qb _ _).drew,fun h=>(by rw[wJ]at h;cases h)⟩
theorem Kc.step{x:Value}{s:Array Bool}(h:Kc W la fin x s w){i:Nat}(hi:i≠la):Kc W la fin x (s.setIfInBounds i true) w:=
 ⟨fun q=>h.eU (by rwa[getD_set_ne false hi]at q),fun q=>h.fin (by rwa[getD_set_ne false hi]at q)⟩
theorem Kc.app{x:Value}{s:Array Bool}(aH:s.getD la true=false)(hf:fin x w):Kc W la fin x (s.setIfInBounds la true) w:=by
 have e:=y9 (oO aH);exact⟨fun q=>(by rw[e]at q;cases q),fun _=>hf⟩
abbrev Sn(vo:Value)(bs os ls cs:Nat)(nn:Nat)(zs:Int)(m ou:Nat)(u:af)(r q:Nat)(p:af)(x:Value):List (Option Tmp×Value):=
 [(some 82,vo),(some 83,.slice (some ⟨bs,os,none⟩) ls cs),(some 84,.pointer (some ⟨nn,0,none⟩)),(some 85,.int .i64 zs),(some 86,.int .i64 (m:Int)),(some 87,.pointer (some ⟨bs,ou,none⟩)),(some 88,S u),(some 89,.pointer (some ⟨nn,1,none⟩)),(some 90,.int .i64 (r:Int)),(some 91,.pointer (some ⟨nn,1,none⟩)),(some 92,.int .i64 (r:Int)),(some 93,.pointer (some ⟨nn,2,none⟩)),(some 94,.int .i64 (q:Int)),(some 95,.int .i64 ((r:Int)+(q:Int))),(some 96,S p),(some 97,x),(some 6,x)]
theorem sI{vo:Value}{bs os ls cs:Nat}{nn:Nat}{zs:Int}{m ou:Nat}{u:af}{r q:Nat}{p:af}{x:Value}:bC (Sn vo bs os ls cs nn zs m ou u r q p x):=by
 unfold bC;simp
theorem Xx6(I:IH)(vs vl:Value)(st:List af)(l:List Xt)(fV:aZ iE I vs st)(Mt:aZ mU I vl l)(jO:∀s∈st,s.length≤9223372036854775807)(w:World)(hw:Ok I w):
 Calls Tryz.prog 49 #[vs,vl] w fun e w'=>e= .returned (.tuple #[S (tF st l).1,.int .i64 (tF st l).2])∧Below w.heap.size w w':=by
 have WT:=fV.bL;have Cg:=Mt.bL;obtain⟨as0,cs0,rfl,_,_,_⟩:=id fV;obtain⟨al,cl,rfl,_,_,_⟩:=id Mt;have Jj:∀b,w.heap.size≤b→I b=none:=fun b hb=>hw.fresh hb;have ma:=Qh fV;have Hvl:=Qh Mt;have bI:=Qh jO;obtain⟨N,hN⟩:∃N,tF st l=N:=⟨_,rfl⟩;have HN:=Qh (show lH st (l.drop 0) []=N from hN);rw[hN];clear fV Mt jO hN;go_enter Tryz.func49,Tryz.ntmps49
 go_wp2_with fail
 go_loopw [6,12] (fun s6 s12 wr=> ∃(k:Nat) (out:af),k≤l.length∧s12= .int .i64 k∧aQ tB 5 I wr w.heap.size s6 (ints out)∧out.length≤65536∧lH st (l.drop k) out=N∧Below w.heap.size w wr) (fun _ i _=>l.length-(intOf i).toNat)
 case atStart=>exact⟨0,[],Nat.zero_le _,rfl,aQ.nil _ _ _ _ _,by simp,HN.O,Qb _ _⟩
 case round=>
  clear HN;obtain⟨k,out,hk,rfl,bU,Gt,hr,hb⟩:=hrel;have Hr:=Qh hr;have iZ:Ok I wr:=hw.below (Qn _) hb;clear hr;obtain⟨ao,co,rfl⟩:=wT bU;rw[Sl]at bU ⊢;have di:=Qh bU;clear bU;by_cases hlt:k<l.length
  ·obtain⟨x,b,off,cap',cB,dC,x0,x1,x2⟩:=vg Hvl.O iZ k hlt;cases dC;have Hg:=Qh (Xmi hlt cB Hr.O);clear cB Hr;obtain⟨zs,zo,zn⟩:=x;dsimp only at x0 x1 x2;have m65:IntKind.i64.wrap (65536-(out.length:Int))=65536-(out.length:Int):=IntWalk.i64_in _ (by omega);by_cases g1:zn<0
   ·have Hn:=Qh (show N=([],2) by have:=Hg.O;rw[if_pos (Kb (x:=⟨zs,zo,zn⟩) (.inl g1))]at this;exact this.symm);have d1:decide (zn<0)=true:=Qt g1;clear g1;have y0:(wr.alloc (.cells #[.int .i64 (zs),.int .i64 (zo),.int .i64 (zn)] 65)).cell? ⟨wr.heap.size,0,none⟩=some (.int .i64 (zs)):=by simp
    have y1:(wr.alloc (.cells #[.int .i64 (zs),.int .i64 (zo),.int .i64 (zn)] 65)).cell? ⟨wr.heap.size,1,none⟩=some (.int .i64 (zo)):=by simp
    have y2:(wr.alloc (.cells #[.int .i64 (zs),.int .i64 (zo),.int .i64 (zn)] 65)).cell? ⟨wr.heap.size,2,none⟩=some (.int .i64 (zn)):=by simp
    have aG:=hb.alloc hb.size (.cells #[.int .i64 (zs),.int .i64 (zo),.int .i64 (zn)] 65);go_wp2;go_ret2;rw[Hn.O];exact⟨rfl,aG⟩
   have d1:decide (zn<0)=false:=Qf g1;by_cases g2:zo<0
   ·have Hn:=Qh (show N=([],2) by have:=Hg.O;rw[if_pos (Kb (x:=⟨zs,zo,zn⟩) (.inr (.inl g2)))]at this;exact this.symm);have d2:decide (zo<0)=true:=Qt g2;clear g1 g2;have y0:(wr.alloc (.cells #[.int .i64 (zs),.int .i64 (zo),.int .i64 (zn)] 65)).cell? ⟨wr.heap.size,0,none⟩=some (.int .i64 (zs)):=by simp
    have y1:(wr.alloc (.cells #[.int .i64 (zs),.int .i64 (zo),.int .i64 (zn)] 65)).cell? ⟨wr.heap.size,1,none⟩=some (.int .i64 (zo)):=by simp
    have y2:(wr.alloc (.cells #[.int .i64 (zs),.int .i64 (zo),.int .i64 (zn)] 65)).cell? ⟨wr.heap.size,2,none⟩=some (.int .i64 (zn)):=by simp
    have aG:=hb.alloc hb.size (.cells #[.int .i64 (zs),.int .i64 (zo),.int .i64 (zn)] 65);go_wp2;go_ret2;rw[Hn.O];exact⟨rfl,aG⟩
   have d2:decide (zo<0)=false:=Qf g2;by_cases g3:zs<0
   ·have Hn:=Qh (show N=([],2) by have:=Hg.O;rw[if_pos (Kb (x:=⟨zs,zo,zn⟩) (.inr (.inr (.inl g3))))]at this;exact this.symm);have d3:decide (zs<0)=true:=Qt g3;clear g1 g2 g3;have y0:(wr.alloc (.cells #[.int .i64 (zs),.int .i64 (zo),.int .i64 (zn)] 65)).cell? ⟨wr.heap.size,0,none⟩=some (.int .i64 (zs)):=by simp
    have y1:(wr.alloc (.cells #[.int .i64 (zs),.int .i64 (zo),.int .i64 (zn)] 65)).cell? ⟨wr.heap.size,1,none⟩=some (.int .i64 (zo)):=by simp
    have y2:(wr.alloc (.cells #[.int .i64 (zs),.int .i64 (zo),.int .i64 (zn)] 65)).cell? ⟨wr.heap.size,2,none⟩=some (.int .i64 (zn)):=by simp
    have aG:=hb.alloc hb.size (.cells #[.int .i64 (zs),.int .i64 (zo),.int .i64 (zn)] 65);go_wp2;go_ret2;rw[Hn.O];exact⟨rfl,aG⟩
   have d3:decide (zs<0)=false:=Qf g3;by_cases g4:(st.length:Int)<zs
   ·have Hn:=Qh (show N=([],2) by have:=Hg.O;rw[if_pos (Kb (x:=⟨zs,zo,zn⟩) (.inr (.inr (.inr (.inl g4)))))]at this;exact this.symm);have d4:decide ((st.length:Int)<zs)=true:=Qt g4;clear g1 g2 g3 g4;have y0:(wr.alloc (.cells #[.int .i64 (zs),.int .i64 (zo),.int .i64 (zn)] 65)).cell? ⟨wr.heap.size,0,none⟩=some (.int .i64 (zs)):=by simp
    have y1:(wr.alloc (.cells #[.int .i64 (zs),.int .i64 (zo),.int .i64 (zn)] 65)).cell? ⟨wr.heap.size,1,none⟩=some (.int .i64 (zo)):=by simp
    have y2:(wr.alloc (.cells #[.int .i64 (zs),.int .i64 (zo),.int .i64 (zn)] 65)).cell? ⟨wr.heap.size,2,none⟩=some (.int .i64 (zn)):=by simp
    have aG:=hb.alloc hb.size (.cells #[.int .i64 (zs),.int .i64 (zo),.int .i64 (zn)] 65);go_wp2;go_ret2;rw[Hn.O];exact⟨rfl,aG⟩
   have d4:decide ((st.length:Int)<zs)=false:=Qf g4;have E9:(0:Int)≤zn:=by omega
   by_cases ky:zs=0
   ·have e1:(zs==0)=true:=by simpa using ky
    have e2:decide (0<zs)=false:=Qf (by omega);by_cases El:zo=0;case neg=>
     have Hn:=Qh (show N=([],2) by have:=Hg.O;rw[if_pos (Kb (x:=⟨zs,zo,zn⟩) (.inr (.inr (.inr (.inr ⟨ky,El⟩)))))]at this;exact this.symm);have e3:(zo !=0)=true:=by simpa using El
     clear g1 g2 g3 g4 ky El;have y0:(wr.alloc (.cells #[.int .i64 (zs),.int .i64 (zo),.int .i64 (zn)] 65)).cell? ⟨wr.heap.size,0,none⟩=some (.int .i64 (zs)):=by simp
     have y1:(wr.alloc (.cells #[.int .i64 (zs),.int .i64 (zo),.int .i64 (zn)] 65)).cell? ⟨wr.heap.size,1,none⟩=some (.int .i64 (zo)):=by simp
     have y2:(wr.alloc (.cells #[.int .i64 (zs),.int .i64 (zo),.int .i64 (zn)] 65)).cell? ⟨wr.heap.size,2,none⟩=some (.int .i64 (zn)):=by simp
     have aG:=hb.alloc hb.size (.cells #[.int .i64 (zs),.int .i64 (zo),.int .i64 (zn)] 65);go_wp2;go_ret2;rw[Hn.O];exact⟨rfl,aG⟩
    have e3:(zo !=0)=false:=by simpa using El
    have xR:=Qh (show(if 65536-(out.length:Int)<zn then(([],6):af×Int)else lH st (l.drop (k+1)) (out++List.replicate zn.toNat 0))=N by
     have h:=Hg.O;dsimp only at h;rw[if_neg (by rw[Sj (x:=⟨zs,zo,zn⟩) g1 g2 g3 g4 (fun h=>h.2 El)];simp),if_neg (by omega),if_pos ky]at h;exact h)
    by_cases ol:65536-(out.length:Int)<zn
    ·have Hn:=Qh (show N=([],6) by have:=xR.O;rw[if_pos ol]at this;exact this.symm);have d5:decide (65536-(out.length:Int)<zn)=true:=Qt ol;clear g1 g2 g3 g4 ky El ol Hg xR;have y0:(wr.alloc (.cells #[.int .i64 (zs),.int .i64 (zo),.int .i64 (zn)] 65)).cell? ⟨wr.heap.size,0,none⟩=some (.int .i64 (zs)):=by simp
     have y1:(wr.alloc (.cells #[.int .i64 (zs),.int .i64 (zo),.int .i64 (zn)] 65)).cell? ⟨wr.heap.size,1,none⟩=some (.int .i64 (zo)):=by simp
     have y2:(wr.alloc (.cells #[.int .i64 (zs),.int .i64 (zo),.int .i64 (zn)] 65)).cell? ⟨wr.heap.size,2,none⟩=some (.int .i64 (zn)):=by simp
     have aG:=hb.alloc hb.size (.cells #[.int .i64 (zs),.int .i64 (zo),.int .i64 (zn)] 65);go_wp2;go_ret2;rw[Hn.O];exact⟨rfl,aG⟩
    ·obtain⟨q,rfl⟩:∃q:Nat,zn=(q:Int):=⟨zn.toNat,by omega⟩;have Uq:q+out.length≤65536:=by omega
     have Hn:=Qh (show lH st (l.drop (k+1)) (out++List.replicate q 0)=N by have:=xR.O;rw[if_neg ol,Int.toNat_natCast]at this;exact this);have d5:decide (65536-(out.length:Int)<(q:Int))=false:=Qf (by omega);clear g1 g2 g3 g4 ky El ol Hg xR;have y0:(wr.alloc (.cells #[.int .i64 (zs),.int .i64 (zo),.int .i64 ((q:Int))] 65)).cell? ⟨wr.heap.size,0,none⟩=some (.int .i64 (zs)):=by simp
     have y1:(wr.alloc (.cells #[.int .i64 (zs),.int .i64 (zo),.int .i64 ((q:Int))] 65)).cell? ⟨wr.heap.size,1,none⟩=some (.int .i64 (zo)):=by simp
     have y2:(wr.alloc (.cells #[.int .i64 (zs),.int .i64 (zo),.int .i64 ((q:Int))] 65)).cell? ⟨wr.heap.size,2,none⟩=some (.int .i64 ((q:Int))):=by simp
     have aG:=hb.alloc hb.size (.cells #[.int .i64 (zs),.int .i64 (zo),.int .i64 ((q:Int))] 65);have zF:=Qh (di.O.alloc (.cells #[.int .i64 zs,.int .i64 zo,.int .i64 (q:Int)] 65));obtain⟨v9,w9,fB,kV,bK⟩:=Xkc q zF.O aG.size rfl (by omega);have Ho9:=Qh kV;have iO:=Below.own aG bK zF.O (Qn _) aG.size;clear kV bK;go_wp2_with (at_builtin;refine Lib.wpList_append_run _ rfl _ _ _ _ rfl _ _ rfl rfl _ _ (fB _) ?_)
     go_wp2;go_roundw;case rel=>exact⟨k+1,_,by omega,by go_num,Ho9.O,by simp;omega,Hn.O,iO⟩
     case measure=>simp[intOf];omega
   ·obtain⟨m,rfl⟩:∃m:Nat,zs=(m:Int)+1:=⟨(zs-1).toNat,by omega⟩;have Ap:m<st.length:=by omega
    obtain⟨u,bs,os,cs,PX,dC,u0⟩:=Fy ma.O (iZ.alloc (.cells #[.int .i64 ((m:Int)+1),.int .i64 zo,.int .i64 zn] 65)) m Ap;cases dC;have hul:=bI.O u (by rw[←PX];exact List.getElem_mem Ap);have Xe:lZ st ⟨(m:Int)+1,zo,zn⟩=u:=by
     show st.getD (((m:Int)+1-1).toNat) []=u;rw[show((m:Int)+1-1).toNat=m by omega];simp[List.getD,Ap,PX]
    have e1:(((m:Int)+1)==0)=false:=by simpa using ky
    have e2:decide ((0:Int)<(m:Int)+1)=true:=Qt (by omega);have i1:(m:Int)<st.length:=by omega
    have m1:IntKind.i64.wrap (m:Int)=(m:Int):=IntWalk.i64_in _ (by omega);have j1:(0:Int)≤(m:Int):=by omega
    have xB:=Qh (show(if 0<(m:Int)+1∧((u.length:Int)<zo∨(u.length:Int)-zo<zn)then(([],2):af×Int)else if 65536-(out.length:Int)<zn then([],6)else lH st (l.drop (k+1)) (out++(u.drop zo.toNat).take zn.toNat))=N by
     have h:=Hg.O;dsimp only at h;rw[if_neg (by rw[Sj (x:=⟨(m:Int)+1,zo,zn⟩) g1 g2 g3 g4 (fun h=>ky h.1)];simp),Xe]at h;rw[←h];simp only[if_neg ky])
    clear Hg Xe PX;by_cases Em:(u.length:Int)<zo
    ·have Hn:=Qh (show N=([],2) by have:=xB.O;rw[if_pos ⟨by omega,.inl Em⟩]at this;exact this.symm);have d6:decide ((u.length:Int)<zo)=true:=Qt Em;clear g1 g2 g3 g4 ky Em xB;have y0:(wr.alloc (.cells #[.int .i64 ((m:Int)+1),.int .i64 (zo),.int .i64 (zn)] 65)).cell? ⟨wr.heap.size,0,none⟩=some (.int .i64 ((m:Int)+1)):=by simp
     have y1:(wr.alloc (.cells #[.int .i64 ((m:Int)+1),.int .i64 (zo),.int .i64 (zn)] 65)).cell? ⟨wr.heap.size,1,none⟩=some (.int .i64 (zo)):=by simp
     have y2:(wr.alloc (.cells #[.int .i64 ((m:Int)+1),.int .i64 (zo),.int .i64 (zn)] 65)).cell? ⟨wr.heap.size,2,none⟩=some (.int .i64 (zn)):=by simp
     have aG:=hb.alloc hb.size (.cells #[.int .i64 ((m:Int)+1),.int .i64 (zo),.int .i64 (zn)] 65);go_wp2;go_ret2;rw[Hn.O];exact⟨rfl,aG⟩
    have d6:decide ((u.length:Int)<zo)=false:=Qf Em;have m8:IntKind.i64.wrap ((u.length:Int)-zo)=(u.length:Int)-zo:=IntWalk.i64_in _ (by omega);by_cases vM:(u.length:Int)-zo<zn
    ·have Hn:=Qh (show N=([],2) by have:=xB.O;rw[if_pos ⟨by omega,.inr vM⟩]at this;exact this.symm);have d7:decide ((u.length:Int)-zo<zn)=true:=Qt vM;clear g1 g2 g3 g4 ky Em vM xB;have y0:(wr.alloc (.cells #[.int .i64 ((m:Int)+1),.int .i64 (zo),.int .i64 (zn)] 65)).cell? ⟨wr.heap.size,0,none⟩=some (.int .i64 ((m:Int)+1)):=by simp
     have y1:(wr.alloc (.cells #[.int .i64 ((m:Int)+1),.int .i64 (zo),.int .i64 (zn)] 65)).cell? ⟨wr.heap.size,1,none⟩=some (.int .i64 (zo)):=by simp
     have y2:(wr.alloc (.cells #[.int .i64 ((m:Int)+1),.int .i64 (zo),.int .i64 (zn)] 65)).cell? ⟨wr.heap.size,2,none⟩=some (.int .i64 (zn)):=by simp
     have aG:=hb.alloc hb.size (.cells #[.int .i64 ((m:Int)+1),.int .i64 (zo),.int .i64 (zn)] 65);go_wp2;go_ret2;rw[Hn.O];exact⟨rfl,aG⟩
    have d7:decide ((u.length:Int)-zo<zn)=false:=Qf vM;have xR:=Qh (show(if 65536-(out.length:Int)<zn then(([],6):af×Int)else lH st (l.drop (k+1)) (out++(u.drop zo.toNat).take zn.toNat))=N by
     have h:=xB.O;rw[if_neg (by omega)]at h;exact h)
    by_cases ol:65536-(out.length:Int)<zn
    ·have Hn:=Qh (show N=([],6) by have:=xR.O;rw[if_pos ol]at this;exact this.symm);have d5:decide (65536-(out.length:Int)<zn)=true:=Qt ol;clear g1 g2 g3 g4 ky Em vM ol xB xR;have y0:(wr.alloc (.cells #[.int .i64 ((m:Int)+1),.int .i64 (zo),.int .i64 (zn)] 65)).cell? ⟨wr.heap.size,0,none⟩=some (.int .i64 ((m:Int)+1)):=by simp
     have y1:(wr.alloc (.cells #[.int .i64 ((m:Int)+1),.int .i64 (zo),.int .i64 (zn)] 65)).cell? ⟨wr.heap.size,1,none⟩=some (.int .i64 (zo)):=by simp
     have y2:(wr.alloc (.cells #[.int .i64 ((m:Int)+1),.int .i64 (zo),.int .i64 (zn)] 65)).cell? ⟨wr.heap.size,2,none⟩=some (.int .i64 (zn)):=by simp
     have aG:=hb.alloc hb.size (.cells #[.int .i64 ((m:Int)+1),.int .i64 (zo),.int .i64 (zn)] 65);go_wp2;go_ret2;rw[Hn.O];exact⟨rfl,aG⟩
    have d5:decide (65536-(out.length:Int)<zn)=false:=Qf (by omega);have Sk:0≤zo∧0≤zn∧zo+zn≤(u.length:Int)∧zn+(out.length:Int)≤65536:=by omega
    obtain⟨q,rfl⟩:∃q:Nat,zn=(q:Int):=⟨zn.toNat,by omega⟩;obtain⟨r,rfl⟩:∃r:Nat,zo=(r:Int):=⟨zo.toNat,by omega⟩;have Uq:q+out.length≤65536:=by omega
    have hrq:r+q≤u.length:=by omega
    have Hn:=Qh (show lH st (l.drop (k+1)) (out++(u.drop r).take q)=N by have:=xR.O;rw[if_neg ol,Int.toNat_natCast,Int.toNat_natCast]at this;exact this);have m7:IntKind.i64.wrap ((r:Int)+(q:Int))=(r:Int)+(q:Int):=IntWalk.i64_in _ (by omega);have i2:(0:Int)≤r:=by omega
    have sp:((r:Int)+(q:Int)).toNat-r=q:=by omega
    have i3:(r:Int)≤(r:Int)+q:=by omega
    have i4:(r:Int)+q≤u.length:=by omega
    clear g1 g2 g3 g4 ky Em vM ol xB xR Sk;have y0:(wr.alloc (.cells #[.int .i64 ((m:Int)+1),.int .i64 ((r:Int)),.int .i64 ((q:Int))] 65)).cell? ⟨wr.heap.size,0,none⟩=some (.int .i64 ((m:Int)+1)):=by simp
    have y1:(wr.alloc (.cells #[.int .i64 ((m:Int)+1),.int .i64 ((r:Int)),.int .i64 ((q:Int))] 65)).cell? ⟨wr.heap.size,1,none⟩=some (.int .i64 ((r:Int))):=by simp
    have y2:(wr.alloc (.cells #[.int .i64 ((m:Int)+1),.int .i64 ((r:Int)),.int .i64 ((q:Int))] 65)).cell? ⟨wr.heap.size,2,none⟩=some (.int .i64 ((q:Int))):=by simp
    have aG:=hb.alloc hb.size (.cells #[.int .i64 ((m:Int)+1),.int .i64 ((r:Int)),.int .i64 ((q:Int))] 65);have zF:=Qh (di.O.alloc (.cells #[.int .i64 ((m:Int)+1),.int .i64 (r:Int),.int .i64 (q:Int)] 65));go_wp2_with fail
    have Oh:∀w',Below (wr.alloc (.cells #[.int .i64 ((m:Int)+1),.int .i64 (r:Int),.int .i64 (q:Int)] 65)).heap.size (wr.alloc (.cells #[.int .i64 ((m:Int)+1),.int .i64 (r:Int),.int .i64 (q:Int)] 65)) w'→
     ∃v9 w9,(∀ty,(Builtin.append_ #[144,9] ty #[.slice ao out.length co,S ((u.drop r).take q)]).run Tryz.prog w'= .ok v9 w9)∧aQ tB 5 I w9 w.heap.size v9 (ints (out++(u.drop r).take q))∧Below w.heap.size w w9:=fun w' aT=>by
     have aL:=aG.trans (aT.mono aG.size);obtain⟨v9,w9,fB,kV,bK⟩:=Xhw ((u.drop r).take q) (zF.O.below aT) aL.size (by simp;omega);exact⟨v9,w9,fB,kV,Below.own aL bK (zF.O.below aT) (Qn _) aL.size⟩
    refine qR (X:=Value) (Sn ((.slice ao out.length co)) bs os st.length cs0 wr.heap.size (((m:Int)+1)) m ((os+m)) u r q (((u.drop r).take q))) (Kc (wr.alloc (.cells #[.int .i64 ((m:Int)+1),.int .i64 (r:Int),.int .i64 (q:Int)] 65)) 15 (fun v9 w9=>aQ tB 5 I w9 w.heap.size v9 (ints (out++(u.drop r).take q))∧Below w.heap.size w w9)) (by kernel_rfl) (by kernel_rfl) ?_ ?_ ?_
    ·exact⟨undef,Kc.start _ _⟩
    ·rintro x s' a' w' i bS bO ha hC hi;obtain⟨aH,oi,dI,au⟩:=mem_ready.1 hi;rcases i with _|_|_|_|_|_|_|_|_|_|_|_|_|_|_|_|_|i
     rotate_left 17
     ·simp at dI
     all_goals
      have dH:=dI;simp at dI;subst dI;simp[Region.binds]at au
     ·have ha':=ha.trans (lT (L:=Sn ((.slice ao out.length co)) bs os st.length cs0 wr.heap.size (((m:Int)+1)) m ((os+m)) u r q (((u.drop r).take q)) x) (M:=(Sn ((.slice ao out.length co)) bs os st.length cs0 wr.heap.size (((m:Int)+1)) m ((os+m)) u r q (((u.drop r).take q)) x).set 16 (none,undef)) [16] (by simp) (fun j bq=>by rw[List.getElem?_set_ne (fun e=>bq (by rw[←e];exact List.mem_singleton.2 rfl))]) (List.forall_mem_cons.2 ⟨Xma (i:=0) bO (by kernel_rfl) aH,List.forall_mem_nil _⟩));have e6:a'.tmps[6]?.getD undef=(.slice ao out.length co):=oL ha' (by simp);have hl:s'.getD 15 false=false:=gU bO [0] (by kernel_rfl) (by rfl) aH;refine wpOp_step dH (fun K' hK=> ?_);rw[if_pos (by rfl)];unfold Oper.wp;simp[go_sem,e6,Oper.upon];exact hK _ _ ⟨x,dS (d:=some 82) (v:=(.slice ao out.length co)) sI ha rfl aH,hC.step (by decide)⟩
     ·have e0:a'.tmps[0]?.getD undef= .slice (some ⟨bs,os,none⟩) st.length cs0:=oL ha (by simp);have hl:s'.getD 15 false=false:=gU bO [14,6,5,1] (by kernel_rfl) (by rfl) aH;refine wpOp_step dH (fun K' hK=> ?_);rw[if_pos (by rfl)];unfold Oper.wp;simp[go_sem,e0,Oper.upon];exact hK _ _ ⟨x,dS (d:=some 83) (v:= .slice (some ⟨bs,os,none⟩) st.length cs0) sI ha rfl aH,hC.step (by decide)⟩
     ·have e8:a'.tmps[8]?.getD undef= .pointer (some ⟨wr.heap.size,0,none⟩):=oL ha (by simp);have hl:s'.getD 15 false=false:=gU bO [14,6,5,4,3,2] (by kernel_rfl) (by rfl) aH;refine wpOp_step dH (fun K' hK=> ?_);rw[if_pos (by rfl)];unfold Oper.wp;simp[go_sem,e8,Oper.upon];exact hK _ _ ⟨x,dS (d:=some 84) (v:= .pointer (some ⟨wr.heap.size,0,none⟩)) sI ha rfl aH,hC.step (by decide)⟩
     ·have e84:a'.tmps[84]?.getD undef= .pointer (some ⟨wr.heap.size,0,none⟩):=gI (i:=2) sI ha rfl (by first|simpa using au|simp[au]) (by simp);have hl:s'.getD 15 false=false:=gU bO [14,6,5,4,3] (by kernel_rfl) (by rfl) aH;have cq:=aV (hC.eU hl) y0;refine wpOp_step dH (fun K' hK=> ?_);rw[if_pos (by rfl)];unfold Oper.wp;simp[go_sem,e84,cq,Oper.upon];exact hK _ _ ⟨x,dS (d:=some 85) (v:= .int .i64 ((m:Int)+1)) sI ha rfl aH,hC.step (by decide)⟩
     ·have e85:a'.tmps[85]?.getD undef= .int .i64 ((m:Int)+1):=gI (i:=3) sI ha rfl (by first|simpa using au|simp[au]) (by simp);have hl:s'.getD 15 false=false:=gU bO [14,6,5,4] (by kernel_rfl) (by rfl) aH;refine wpOp_step dH (fun K' hK=> ?_);rw[if_pos (by rfl)];unfold Oper.wp;simp[go_sem,e85,m1,Oper.upon];exact hK _ _ ⟨x,dS (d:=some 86) (v:= .int .i64 (m:Int)) sI ha rfl aH,hC.step (by decide)⟩
     ·have e83:a'.tmps[83]?.getD undef= .slice (some ⟨bs,os,none⟩) st.length cs0:=gI (i:=1) sI ha rfl (by first|simpa using au|simp[au]) (by simp);have e86:a'.tmps[86]?.getD undef= .int .i64 (m:Int):=gI (i:=4) sI ha rfl (by first|simpa using au|simp[au]) (by simp);have hl:s'.getD 15 false=false:=gU bO [14,6,5] (by kernel_rfl) (by rfl) aH;refine wpOp_step dH (fun K' hK=> ?_);rw[if_pos (by rfl)];unfold Oper.wp;simp[go_sem,e83,e86,i1,j1,Oper.upon];exact hK _ _ ⟨x,dS (d:=some 87) (v:= .pointer (some ⟨bs,(os+m),none⟩)) sI ha rfl aH,hC.step (by decide)⟩
     ·have e87:a'.tmps[87]?.getD undef= .pointer (some ⟨bs,(os+m),none⟩):=gI (i:=5) sI ha rfl (by first|simpa using au|simp[au]) (by simp);have hl:s'.getD 15 false=false:=gU bO [14,6] (by kernel_rfl) (by rfl) aH;have cq:=aV (hC.eU hl) u0;refine wpOp_step dH (fun K' hK=> ?_);rw[if_pos (by rfl)];unfold Oper.wp;simp[go_sem,e87,cq,Oper.upon];exact hK _ _ ⟨x,dS (d:=some 88) (v:=S u) sI ha rfl aH,hC.step (by decide)⟩
     ·have e8:a'.tmps[8]?.getD undef= .pointer (some ⟨wr.heap.size,0,none⟩):=oL ha (by simp);have hl:s'.getD 15 false=false:=gU bO [14,8,7] (by kernel_rfl) (by rfl) aH;refine wpOp_step dH (fun K' hK=> ?_);rw[if_pos (by rfl)];unfold Oper.wp;simp[go_sem,e8,Oper.upon];exact hK _ _ ⟨x,dS (d:=some 89) (v:= .pointer (some ⟨wr.heap.size,1,none⟩)) sI ha rfl aH,hC.step (by decide)⟩
     ·have e89:a'.tmps[89]?.getD undef= .pointer (some ⟨wr.heap.size,1,none⟩):=gI (i:=7) sI ha rfl (by first|simpa using au|simp[au]) (by simp);have hl:s'.getD 15 false=false:=gU bO [14,8] (by kernel_rfl) (by rfl) aH;have cq:=aV (hC.eU hl) y1;refine wpOp_step dH (fun K' hK=> ?_);rw[if_pos (by rfl)];unfold Oper.wp;simp[go_sem,e89,cq,Oper.upon];exact hK _ _ ⟨x,dS (d:=some 90) (v:= .int .i64 (r:Int)) sI ha rfl aH,hC.step (by decide)⟩
     ·have e8:a'.tmps[8]?.getD undef= .pointer (some ⟨wr.heap.size,0,none⟩):=oL ha (by simp);have hl:s'.getD 15 false=false:=gU bO [14,13,10,9] (by kernel_rfl) (by rfl) aH;refine wpOp_step dH (fun K' hK=> ?_);rw[if_pos (by rfl)];unfold Oper.wp;simp[go_sem,e8,Oper.upon];exact hK _ _ ⟨x,dS (d:=some 91) (v:= .pointer (some ⟨wr.heap.size,1,none⟩)) sI ha rfl aH,hC.step (by decide)⟩
     ·have e91:a'.tmps[91]?.getD undef= .pointer (some ⟨wr.heap.size,1,none⟩):=gI (i:=9) sI ha rfl (by first|simpa using au|simp[au]) (by simp);have hl:s'.getD 15 false=false:=gU bO [14,13,10] (by kernel_rfl) (by rfl) aH;have cq:=aV (hC.eU hl) y1;refine wpOp_step dH (fun K' hK=> ?_);rw[if_pos (by rfl)];unfold Oper.wp;simp[go_sem,e91,cq,Oper.upon];exact hK _ _ ⟨x,dS (d:=some 92) (v:= .int .i64 (r:Int)) sI ha rfl aH,hC.step (by decide)⟩
     ·have e8:a'.tmps[8]?.getD undef= .pointer (some ⟨wr.heap.size,0,none⟩):=oL ha (by simp);have hl:s'.getD 15 false=false:=gU bO [14,13,12,11] (by kernel_rfl) (by rfl) aH;refine wpOp_step dH (fun K' hK=> ?_);rw[if_pos (by rfl)];unfold Oper.wp;simp[go_sem,e8,Oper.upon];exact hK _ _ ⟨x,dS (d:=some 93) (v:= .pointer (some ⟨wr.heap.size,2,none⟩)) sI ha rfl aH,hC.step (by decide)⟩
     ·have e93:a'.tmps[93]?.getD undef= .pointer (some ⟨wr.heap.size,2,none⟩):=gI (i:=11) sI ha rfl (by first|simpa using au|simp[au]) (by simp);have hl:s'.getD 15 false=false:=gU bO [14,13,12] (by kernel_rfl) (by rfl) aH;have cq:=aV (hC.eU hl) y2;refine wpOp_step dH (fun K' hK=> ?_);rw[if_pos (by rfl)];unfold Oper.wp;simp[go_sem,e93,cq,Oper.upon];exact hK _ _ ⟨x,dS (d:=some 94) (v:= .int .i64 (q:Int)) sI ha rfl aH,hC.step (by decide)⟩
     ·have e92:a'.tmps[92]?.getD undef= .int .i64 (r:Int):=gI (i:=10) sI ha rfl (by first|simpa using au|simp[au]) (by simp);have e94:a'.tmps[94]?.getD undef= .int .i64 (q:Int):=gI (i:=12) sI ha rfl (by first|simpa using au|simp[au]) (by simp);have hl:s'.getD 15 false=false:=gU bO [14,13] (by kernel_rfl) (by rfl) aH;refine wpOp_step dH (fun K' hK=> ?_);rw[if_pos (by rfl)];unfold Oper.wp;simp[go_sem,e92,e94,m7,Oper.upon];exact hK _ _ ⟨x,dS (d:=some 95) (v:= .int .i64 ((r:Int)+(q:Int))) sI ha rfl aH,hC.step (by decide)⟩
     ·have e88:a'.tmps[88]?.getD undef=S u:=gI (i:=6) sI ha rfl (by first|simpa using au|simp[au]) (by simp);have e90:a'.tmps[90]?.getD undef= .int .i64 (r:Int):=gI (i:=8) sI ha rfl (by first|simpa using au|simp[au]) (by simp);have e95:a'.tmps[95]?.getD undef= .int .i64 ((r:Int)+(q:Int)):=gI (i:=13) sI ha rfl (by first|simpa using au|simp[au]) (by simp);have hl:s'.getD 15 false=false:=gU bO [14] (by kernel_rfl) (by rfl) aH;refine wpOp_step dH (fun K' hK=> ?_);rw[if_pos (by rfl)];unfold Oper.wp;simp[go_sem,e88,e90,e95,sp,i2,i3,i4,Oper.upon];exact hK _ _ ⟨x,dS (d:=some 96) (v:=S ((u.drop r).take q)) sI ha rfl aH,hC.step (by decide)⟩
     ·have e82:a'.tmps[82]?.getD undef=(.slice ao out.length co):=gI (i:=0) sI ha rfl (by first|simpa using au|simp[au]) (by simp);have Za:a'.tmps[96]?.getD undef=S ((u.drop r).take q):=gI (i:=14) sI ha rfl (by first|simpa using au|simp[au]) (by simp);have hl:s'.getD 15 false=false:=gG aH;obtain⟨v9,w9,fB,hf9⟩:=Oh w' (hC.eU hl);have ha:=ha.trans (lT (L:=Sn ((.slice ao out.length co)) bs os st.length cs0 wr.heap.size (((m:Int)+1)) m ((os+m)) u r q (((u.drop r).take q)) x) (M:=Sn ((.slice ao out.length co)) bs os st.length cs0 wr.heap.size (((m:Int)+1)) m ((os+m)) u r q (((u.drop r).take q)) v9) [15,16] rfl (fun j bq=>by
       rcases j with _|_|_|_|_|_|_|_|_|_|_|_|_|_|_|_|_|j<;>first|rfl|(exact absurd (by decide) bq)|simp) (List.forall_mem_cons.2 ⟨gG aH,List.forall_mem_cons.2 ⟨Xma bO (by kernel_rfl) aH,List.forall_mem_nil _⟩⟩))
      refine wpOp_step dH (fun K' hK=> ?_);rw[if_pos (by rfl)];refine Lib.wp_append_run _ _ _ _ _ rfl _ _ (by simp[Act.eval,e82,Za]) (by simp[Act.eval,e82,Za]) v9 w9 (fB _) ?_;exact hK _ _ ⟨v9,dS (d:=some 97) (v:=v9) sI ha rfl aH,Kc.app aH hf9⟩
     ·have e97:a'.tmps[97]?.getD undef=x:=gI (i:=15) sI ha rfl (by first|simpa using au|simp[au]) (by simp);refine wpOp_step dH (fun K' hK=> ?_);rw[if_pos (by rfl)];unfold Oper.wp;simp[go_sem,e97,Oper.upon];exact hK _ _ ⟨x,dS (d:=some 6) (v:=x) sI ha rfl aH,hC.step (by decide)⟩
    ·rintro x s' a' w8 eu ha hC;have hf8:=hC.fin (eu 15 (by decide));rw[qz _ _ _ _ (fun i hi=>by rw[Nat.zero_add];exact eu i (by simpa using hi))]at ha;subst ha;simp only[dE,Act.put];obtain⟨kV,iO⟩:=hf8;have Ho9:=Qh kV;clear kV;go_wp2;go_roundw;case rel=>exact⟨k+1,_,by omega,by go_num,Ho9.O,by simp;omega,Hn.O,iO⟩
     case measure=>simp[intOf];omega
  ·have Hn:=Qh (show N=(out,0) by have:=Hr.O;rw[List.drop_of_length_le (by omega)]at this;exact this.symm);have Td:=Xti di.O;go_wp2;go_ret2;rw[Hn.O];exact⟨rfl,hb⟩
