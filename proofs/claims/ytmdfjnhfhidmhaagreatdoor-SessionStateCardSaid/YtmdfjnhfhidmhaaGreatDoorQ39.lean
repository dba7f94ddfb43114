/- Lemmas for the claim's theorem;conditions: as each says. -/
import Derived.Test.YtmdfjnhfhidmhaaGreatDoorQ38
set_option maxHeartbeats 0
set_option maxRecDepth 100000
set_option linter.all false
namespace Go.Proofs.YtmdfjnhfhidmhaaGreatDoor
open Go.RowKit
structure yL (J:IH) (w:World) (B:Nat) (ai dt sp:Int) (vs:Value) (L:List bu):Prop where
 no:J B=none
 rd:aY iO J vs L
 row:w.heap[B]?=some (.cells #[.int .u32 ai,.int .i64 dt,.int .i64 sp,vs] 63 (0,0))
section
variable {I J J':IH} {w0 w w':World} {B:Nat} {ai dt sp:Int} {vs:Value} {L:List bu}
theorem yL.lt(h:yL J w B ai dt sp vs L):B<w.heap.size:=(Qg h.row)
theorem yL.ext(h:yL J w B ai dt sp vs L)(iU:Ok J w)(hb:Below w.heap.size w w')(hx:Ext w.heap.size J J'):yL J' w' B ai dt sp vs L:=
 ⟨(hx _ h.lt).trans h.no,h.rd.mono (fun b c hc=>hx.keep iU (Qn _) b c hc),(hb.block _ h.lt).trans h.row⟩
theorem yL.quiet(h:yL J w B ai dt sp vs L)(hb:Below w.heap.size w w'):yL J w' B ai dt sp vs L:=
 ⟨h.no,h.rd,(hb.block _ h.lt).trans h.row⟩
end
def Uh(I:IH)(w:World)(ai dt sp:Int)(L:List bu)(e:Ending)(w':World):Prop:=
 ∃vs J,e= .returned (ed ai dt sp vs)∧Below w.heap.size w w'∧Ext w.heap.size I J∧Ok J w'∧aY iO J vs L
theorem Xj7(I:IH)(hI:cB I)(w:World)(hw:Ok I w):
 Calls Tryz.prog 26 #[] w fun e w'=>e= .returned (.bool true)∧Below w.heap.size w w':=by
 have A0:=(lq.start hw).past (.cells (zT cA (.slice none 0 0)).toArray 25);obtain⟨K,hk,_,iU,_,hr⟩:=one_row (T:=xY) (x:=cA) (cs:=zT cA (.slice none 0 0)) A0.ok (heap_alloc_new w _) (hw.fresh (Qn _)) ⟨_,rfl,aY.nil _ _⟩;have Hw:=Qh (Xkr K (hI.mono hk) 7 0 0 [] Zf [cA] (by decide) (by decide) (.slice none 0 0) (aY.nil _ _) 5 _ hr (fun c hc=>by rw[List.mem_singleton.1 hc];exact⟨LY.wf,by decide,by decide⟩) _ iU);rw[Xre]at Hw;have A1:=Qh (show lq I w K _ from⟨iU,hk,A0.eD⟩);clear A0 hk iU hr hI;go_enter Tryz.func26,Tryz.ntmps26
 go_wp2_with fail
 refine Hw.q.mono ?_;rintro e1 w1 ⟨vs,J1,rfl,aG,kM,aS,fE⟩;have A2:=Qh (A1.q.ext aG kM aS);obtain⟨a1,c1,rfl⟩:=Xtc (n:=1) fE rfl;have Hr:=Qh (show aY iO J1 (.slice a1 1 c1) [sC]from fE);clear aG kM aS fE A1 Hw
 go_upto_region 2 with(
  refine jy rfl rfl 63 _ _ rfl w1.heap.size 0 [.int .u32 7,.int .i64 0,.int .i64 0,.slice a1 1 c1] (ed 7 0 0 (.slice a1 1 c1)) (by simp[Act.eval]) (by simp[Act.eval]) (by rfl) eT 63 (heap_alloc_new _ _) (by simp) (by kernel_rfl) (by simp[Value.oneCell']) #[.int .u32 7,.int .i64 0,.int .i64 0,.slice a1 1 c1] (by rfl) ?_;intro w2 qC iA)
 have aP:Below w1.heap.size w1 w2:=((Qb _ _).alloc (Qn _) _).grown qC (by simp) (fun k e=>by injection e with e;omega);have A3:=Qh (A2.q.quiet aP);obtain⟨z0,z1,z2,z3⟩:=xm iA;obtain⟨x,ve,b,off,cap,dz,dC,⟨c0,c1',c2,c3,c4,c5⟩,h1⟩:=Kv Hr.q A3.q.ok 0 (by decide);obtain rfl:sC=x:=dz;cases dC;obtain⟨e,va,vx,b2,mM,cap2,sS,dC,⟨d0,d1,d2,d3,d4,d5,d6⟩,h2,h3⟩:=uT h1 A3.q.ok 0 (by decide);obtain rfl:yC=e:=sS;cases dC;obtain⟨x,b3,Ad,LZ,hlt,dC,x0,x1,x2⟩:=tZ h3 A3.q.ok 0 (by decide);obtain rfl:xC=x:=hlt;cases dC;replace c0:w2.cell? ⟨b,off,none⟩=some (.int .i64 1):=c0;have c1:w2.cell? ⟨b,off+1,none⟩=some (.int .i64 5):=c1';replace c2:w2.cell? ⟨b,off+2,none⟩=some (S []):=c2;replace c3:w2.cell? ⟨b,off+3,none⟩=some (.slice (some ⟨b2,mM,none⟩) 1 cap2):=c3;replace c4:w2.cell? ⟨b,off+4,none⟩=some (S [97,98,99]):=c4;replace c5:w2.cell? ⟨b,off+5,none⟩=some (S []):=c5;replace d6:w2.cell? ⟨b2,mM+6,none⟩=some (.slice (some ⟨b3,Ad,none⟩) 1 LZ):=d6;replace x0:w2.cell? ⟨b3,Ad,none⟩=some (.int .i64 1):=x0;replace x1:w2.cell? ⟨b3,Ad+1,none⟩=some (.int .i64 0):=x1;replace x2:w2.cell? ⟨b3,Ad+2,none⟩=some (.int .i64 3):=x2;have hz:=block_lt_of_cell z0;clear qC iA c1' d0 d1 d2 d3 d4 d5 h1 h2 h3
 go_upto_region 5 with(
  refine jy rfl rfl 76 _ _ rfl w2.heap.size 0 [.int .i64 1,.int .i64 5,S [],.slice (some ⟨b2,mM,none⟩) 1 cap2,S [97,98,99],S []] (.agg #[.int .i64 1,.int .i64 5,S [],.slice (some ⟨b2,mM,none⟩) 1 cap2,S [97,98,99],S []]) (by simp[Act.eval]) (by simp[Act.eval]) (by rfl) Ab 76 (heap_alloc_new _ _) (by simp) (by kernel_rfl) (by simp[Value.oneCell']) #[.int .i64 1,.int .i64 5,S [],.slice (some ⟨b2,mM,none⟩) 1 cap2,S [97,98,99],S []] (by rfl) ?_;intro w3 kS qK)
 have fu:Below w2.heap.size w2 w3:=((Qb _ _).alloc (Qn _) _).grown kS (by simp) (fun k e=>by injection e with e;omega);have A4:=Qh (A3.q.quiet fu);replace z0:=bI fu z0;replace d6:=bI fu d6;replace x0:=bI fu x0;replace x1:=bI fu x1;replace x2:=bI fu x2;have s0:w3.cell? ⟨w2.heap.size,0,none⟩=some (.int .i64 1):=(cell_of_row _ _ 0 _ _ _ qK).trans rfl;have s1:w3.cell? ⟨w2.heap.size,1,none⟩=some (.int .i64 5):=(cell_of_row _ _ 1 _ _ _ qK).trans rfl;have s3:w3.cell? ⟨w2.heap.size,3,none⟩=some (.slice (some ⟨b2,mM,none⟩) 1 cap2):=(cell_of_row _ _ 3 _ _ _ qK).trans rfl;have s4:w3.cell? ⟨w2.heap.size,4,none⟩=some (S [97,98,99]):=(cell_of_row _ _ 4 _ _ _ qK).trans rfl;clear c0 c1 c2 c3 c4 c5 z1 z2 z3 kS qK fu A3;go_wp2_with fail
 go_ret;exact⟨rfl,A4.q.eD⟩
