/- Lemmas for the claim's theorem;conditions: as each says. -/
import Derived.Lib.IndexMore
import Derived.Shelf.Strings.Search3
import Derived.Test.YtkipnpjagcfcpaaGreatDoorProg
import Derived.Test.YtkipnpjagcfcpaaGreatDoorE13
set_option maxHeartbeats 0
set_option maxRecDepth 100000
set_option linter.all false
namespace Go.Proofs.YtkipnpjagcfcpaaGreatDoor
open Go.RowKit
variable{s:ae}{F:List Rec}
theorem Xhy{c:ae}(h:Within c s):Lib.contains s c=true:=by
 obtain⟨a,b,rfl⟩:=h;unfold Lib.contains;rw[decide_eq_true_iff];rcases Lib.index_spec (a++(c++b)) c with⟨h1,h2⟩|⟨i,h1,_⟩
 ·have h3:=h2 a.length (by simp);have ho:Lib.occAt (a++(c++b)) c a.length=true:=by
   unfold Lib.occAt;rw[List.drop_left];exact List.isPrefixOf_iff_prefix.2 ⟨b,rfl⟩
  rw[ho]at h3;cases h3
 ·rw[h1];omega
theorem Xq1{p:ae}(h:∃r,s=p++r):Lib.hasPrefix s p=true:=by
 obtain⟨r,rfl⟩:=h;exact List.isPrefixOf_iff_prefix.2 ⟨r,rfl⟩
theorem Xmv:∀{es:List aG} {fs:List Rec},(∀e∈es,kT e)→(∀f∈fs,f.aU.length≤65560)→(fu fs es).length≤70000*es.length
 | [],_,_,_=>by simp[fu]
 |e::es,fs,h,hf=>by
  have h1:=(Ze (h e (List.mem_cons_self ..)) hf).1;have h2:=Xmv (es:=es) (fs:=kU fs e) (fun x hx=>h x (List.mem_cons_of_mem _ hx)) fun f hx=>by
   unfold kU at hx;split at hx
   ·exact hf f hx
   ·exact hf f (List.mem_of_mem_tail hx)
  rw[fu,List.length_append,List.length_cons];omega
theorem Xu1{x:bR}(hg:jA x)(hn:EQ x)(he:∀e∈x.ay,az e=0)(hf:∀f∈F,f.aU.length≤65560):(kP F x).length≤3000000:=by
 have h1:=Xmv (es:=x.ay) (fs:=di F x.num) (fun e h=>Bn (he e h)) fun f h=>hf f ((List.mem_filter.1 h).1);have h2:=hg.mi;obtain⟨a,ha⟩:=Int.eq_ofNat_of_zero_le hn.n0;obtain⟨d,hd⟩:=Int.eq_ofNat_of_zero_le hn.d0;have a1:=hn.n1;have d1:=hn.d1;have h3:=qP a (by omega);have h4:=qP d (by omega);have h5:=qP x.ay.length (by omega);unfold kP;rw[ha,hd];rw[ha]at h1;simp only[List.length_append];omega
theorem Xpg(hf:∀f∈F,f.aU.length≤65560):∀{L:List bR},(∀x∈L,jA x)→(∀x∈L,EQ x)→(∀x∈L,∀e∈x.ay,az e=0)→(pQ ⟨L,F⟩).length≤3000000*L.length
 | [],_,_,_=>by simp[pQ]
 |x::L,h1,h2,h3=>by
  have h4:=Xu1 (h1 x (List.mem_cons_self ..)) (h2 x (List.mem_cons_self ..)) (h3 x (List.mem_cons_self ..)) hf;have h5:=Xpg hf (L:=L) (fun y h=>h1 y (List.mem_cons_of_mem _ h)) (fun y h=>h2 y (List.mem_cons_of_mem _ h)) (fun y h=>h3 y (List.mem_cons_of_mem _ h));unfold pQ at h5 ⊢;dsimp only at h5 ⊢;rw[List.flatMap_cons,List.length_append,List.length_cons];omega
end Go.Proofs.YtkipnpjagcfcpaaGreatDoor
namespace Go.Proofs
open Go.Shelf
def Tryz.zb:Go.Shelf.Ren:=⟨fun|144=>11|143=>33|219=>67|217=>118|225=>119|224=>120|267=>121|266=>184|314=>185|n=>n,fun|9=>9|4=>4|3=>3|5=>5|46=>173|146=>225|51=>41|n=>n,fun|1=>0|n=>n⟩
theorem Tryz.IQ:Go.Proofs.Lays.n144 Tryz.prog Tryz.zb:={
 mixed:=by kernel_rfl
 f143:=Tryz.func33.trans (congrArg some (by kernel_rfl))
 f144:=Tryz.func11.trans (congrArg some (by kernel_rfl))
 f217:=Tryz.func118.trans (congrArg some (by kernel_rfl))
 f219:=Tryz.func67.trans (congrArg some (by kernel_rfl))
 f224:=Tryz.func120.trans (congrArg some (by kernel_rfl))
 f225:=Tryz.func119.trans (congrArg some (by kernel_rfl))
 f266:=Tryz.func184.trans (congrArg some (by kernel_rfl))
 f267:=Tryz.func121.trans (congrArg some (by kernel_rfl))
 f314:=Tryz.func185.trans (congrArg some (by kernel_rfl))
 t3:=Tryz.underlying3
 a3:=Tryz.isAgg3
 z3:=Tryz.sizeOf3
 v3:=Tryz.zeroValue3
 t4:=Tryz.underlying4
 a4:=Tryz.isAgg4
 z4:=Tryz.sizeOf4
 v4:=Tryz.zeroValue4
 t5:=Tryz.underlying5
 a5:=Tryz.isAgg5
 z5:=Tryz.sizeOf5
 v5:=Tryz.zeroValue5
 t9:=Tryz.underlying9
 a9:=Tryz.isAgg9
 z9:=Tryz.sizeOf9
 v9:=Tryz.zeroValue9
 t46:=Tryz.underlying173
 a46:=Tryz.isAgg173
 z46:=Tryz.sizeOf173
 v46:=Tryz.zeroValue173
 t51:=Tryz.underlying41
 a51:=Tryz.isAgg41
 z51:=Tryz.sizeOf41
 v51:=Tryz.zeroValue41
 t146:=Tryz.underlying225
 a146:=Tryz.isAgg225
 z146:=Tryz.sizeOf225
 v146:=Tryz.zeroValue225
 g1:=by kernel_rfl}
open Go.RowKit Go.Lib in
theorem Tryz.strings_Contains(s sub:ByteArray)(m:Int)(w:World)(hs:s.size<4294967281)(hm:w.cell? ⟨0,0,none⟩=some (.int .i64 m)):
 Calls Tryz.prog 11 #[.string s,.string sub] w fun e w'=>e= .returned (.bool (Lib.contains s.data.toList sub.data.toList))∧w'=w:=Any.strings_Contains Tryz.IQ s sub m w hs hm
def Tryz.Az:Go.Shelf.Ren:=⟨fun|99=>12|206=>34|n=>n,fun|9=>9|4=>4|3=>3|n=>n,fun|n=>n⟩
theorem Tryz.Mg:Go.Proofs.Lays.n99 Tryz.prog Tryz.Az:={
 mixed:=by kernel_rfl
 f99:=Tryz.func12.trans (congrArg some (by kernel_rfl))
 f206:=Tryz.func34.trans (congrArg some (by kernel_rfl))
 t3:=Tryz.underlying3
 a3:=Tryz.isAgg3
 z3:=Tryz.sizeOf3
 v3:=Tryz.zeroValue3
 t4:=Tryz.underlying4
 a4:=Tryz.isAgg4
 z4:=Tryz.sizeOf4
 v4:=Tryz.zeroValue4
 t9:=Tryz.underlying9
 a9:=Tryz.isAgg9
 z9:=Tryz.sizeOf9
 v9:=Tryz.zeroValue9}
open Go.RowKit Go.Lib in
theorem Tryz.strings_HasPrefix(s p:ByteArray)(w:World):
 Calls Tryz.prog 12 #[.string s,.string p] w fun e w'=>e= .returned (.bool (Lib.hasPrefix s.data.toList p.data.toList))∧w'=w:=Any.strings_HasPrefix Tryz.Mg s p w
end Go.Proofs
namespace Go.Proofs.YtkipnpjagcfcpaaGreatDoor
open Go.RowKit
theorem Xme(I:IH)(hI:dQ I)(s c:ae)(hs:s.length≤4294967280)(h:Lib.contains s c=true)(w:World)(hw:Ok I w):
 Calls Tryz.prog 11 #[S s,S c] w fun e w'=>e= .returned (.bool true)∧w'=w:=by
 obtain⟨m,hm⟩:=hI.D7 hw;have h1:=Tryz.strings_Contains ⟨s.toArray⟩ ⟨c.toArray⟩ m w (by simp[ByteArray.size];omega) hm;simpa[h]using h1
theorem Xkw(s p:ae)(h:Lib.hasPrefix s p=true)(w:World):
 Calls Tryz.prog 12 #[S s,S p] w fun e w'=>e= .returned (.bool true)∧w'=w:=by
 have h1:=Tryz.strings_HasPrefix ⟨s.toArray⟩ ⟨p.toArray⟩ w;simpa[h]using h1
theorem Xxh(n m:Nat):∃k,k≤m∧(n:Int).tmod ((m:Int)+1)=(k:Int):=by
 refine⟨n%(m+1),by have:=Nat.mod_lt n (show m+1>0 by omega);omega,?_⟩;rw[Int.tmod_eq_emod_of_nonneg (by omega)];rfl
theorem Xhh(I:IH)(hI:dQ I)(v:Value)(l:List bR)(hv:bf lL I v l)(jh:∀x∈l,x.Wf)(d:Int)(hd:0≤d∧d≤255)(m:Int)(hm:0≤m∧m≤18446744073709551615)(w:World)(hw:Ok I w):
 Calls Tryz.prog 4 #[v,.int .u8 d,.int .u64 m] w fun r w'=>r= .returned (.bool true)∧Below w.heap.size w w':=by
 have rH:=Qh (fun w hw=>U7 I hI w hw);have Fa:=Qh (fun w hw=>Xic I v l hv jh w hw);have A0:=Qh (lY.start hw);cases hg:jT l;case false=>
  have e1:il l=0:=by rw[il,hg];rfl
  rw[e1]at Fa;obtain⟨ao,cap,rfl,_,_,_⟩:=id hv;clear e1 hg hv hd hm;go_enter Tryz.func4,Tryz.ntmps4
  go_wp2_with fail
  refine(Fa.O _ A0.O.ok).mono ?_;rintro e1 w1 ⟨rfl,au⟩;have A1:=Qh (A0.O.quiet au);clear au A0;go_wp2_with fail
  refine(rH.O _ A1.O.ok).mono ?_;rintro e2 w2 ⟨rfl,aF⟩;have A2:=Qh (A1.O.quiet aF);clear aF A1;go_wp2;go_ret;exact⟨rfl,A2.O.dE⟩
 case true=>
  have e1:il l=1:=by rw[il,hg];rfl
  rw[e1]at Fa;obtain⟨⟨zw,uL,_⟩,xH⟩:=Xjo jh hg;obtain⟨M,rfl⟩:=Int.eq_ofNat_of_zero_le hm.1;obtain⟨D,rfl⟩:=Int.eq_ofNat_of_zero_le hd.1;obtain⟨K,hK,zk⟩:=Xxh D l.length;have Va:∀x∈l.take K,jA x:=fun x hx=>uL x (List.mem_of_mem_take hx);have uw:=Qh (fun w hw=>Zt I v l hv uL (by omega) M (by omega) w hw);have Hv:=Qh hv;obtain⟨hC,FK⟩:=U4 (aK l) M l 0 uL;obtain⟨IV,ao8⟩:=U4 (aK (l.take K)) M (l.take K) 0 Va;have hlT:(l.take K).length=K:=by rw[List.length_take];omega
  have CZ:=ZM xH;have Vb:=Xp8 xH;have pF:=Xpg hC uL CZ Vb;have Vd:=Qh (fun f hf h0=>Xhy (Xoz (Xsu xH) M f hf h0));have Ve:=Qh (Xq1 (Xo0 xH K M));have AZ:=Qh (fun J (hk:∀b c,I b=some c→J b=some c) vf (wu:bf nY J vf (dP (aK l) M l 0)) w hw=>UW J (hI.mono hk) _ _ l _ (hv.mono hk) wu uL (by omega) CZ Vb (by omega) hC w hw);have ZW:=Qh (fun J (hk:∀b c,I b=some c→J b=some c) w hw=>U7 J (hI.mono hk) w hw);obtain⟨ao,cap,rfl,dO,_,_⟩:=id hv;have Ju:=Qh (fun J (hk:∀b c,I b=some c→J b=some c) w hw=>Zt J _ (l.take K) ((hv.rR hK).mono hk) Va (by omega) M (by omega) w hw);have Sd:=Qh (fun J (hk:∀b c,I b=some c→J b=some c) vf (wu:bf nY J vf (dP (aK (l.take K)) M (l.take K) 0)) w hw=>UW J (hI.mono hk) _ _ (l.take K) _ ((hv.rR hK).mono hk) wu Va (by omega) (fun x hx=>CZ x (List.mem_of_mem_take hx)) (fun x hx=>Vb x (List.mem_of_mem_take hx)) (by omega) IV w hw);unfold uF at Vd Ve;dsimp only at Vd;have HG:=Qh hI;generalize dP (aK l) M l 0=fs at*;generalize dP (aK (l.take K)) M (l.take K) 0=fs2 at*;obtain⟨tx,htx⟩:∃tx,pQ ⟨l,fs⟩=tx:=⟨_,rfl⟩;obtain⟨ZX,Si⟩:∃ZX,pQ ⟨l.take K,fs2⟩=ZX:=⟨_,rfl⟩;rw[htx]at pF Vd Ve AZ;rw[Si]at Ve Sd;have i1:(K:Int)≤(l.length:Int):=by omega
  have i2:(K:Int)≤(cap:Int):=by omega
  have m2:IntKind.i64.wrap (D:Int)=D:=IntWalk.i64_in _ (by omega);clear e1 hg hv xH uL Va hC IV CZ Vb htx Si hlT hI rH;go_enter Tryz.func4,Tryz.ntmps4
  go_wp2_with fail
  refine(Fa.O _ A0.O.ok).mono ?_;rintro e1 w1 ⟨rfl,au⟩;have A1:=Qh (A0.O.quiet au);clear au A0;go_wp2_with fail
  refine(uw.O _ A1.O.ok).mono ?_;rintro e2 w2 ⟨vf,J,rfl,aF,fM,aQ,fT⟩;have Hk:=Qh (show ∀b c,I b=some c→J b=some c from fM.keep A1.O.ok (Qn _));have A2:=Qh (show lY I w J w2 from⟨aQ,Hk.O,A1.O.dE.trans (aF.mono A1.O.dE.size)⟩);obtain⟨fo,fc,rfl,Td,_,_⟩:=id fT;have Hr:=Qh fT;have A3:=Qh (A2.O.past (.cells #[.slice ao l.length cap,.slice fo fs.length fc] 28));have RB:=Qh (heap_alloc_new w2 (.cells #[.slice ao l.length cap,.slice fo fs.length fc] 28));have mZ:=Qh (AZ.O J Hk.O _ Hr.O);clear aF fM aQ fT A1 uw Fa A2 AZ;go_wp2_with fail
  refine(mZ.O _ A3.O.ok).mono ?_;rintro e4 w4 ⟨rfl,aM⟩;have A4:=Qh (A3.O.quiet aM);have r1:w4.cell? ⟨w2.heap.size,1,none⟩=some (.slice fo fs.length fc):=(cell_of_row _ _ 1 _ _ _ (jg RB.O aM)).trans rfl;clear aM A3 RB mZ;go_wp2_with fail
  go_loopw [11,30] (fun _ s30 wr=> ∃k:Nat,k≤fs.length∧s30= .int .i64 k∧lY I w J wr) (fun _ i _=>fs.length-(intOf i).toNat)
  case atStart=>exact⟨0,Nat.zero_le _,rfl,A4.O⟩
  case round=>
   clear A4 r1;obtain⟨k,hk,rfl,hM⟩:=hrel;have M4:=Qh hM;clear hM;by_cases hlt:k<fs.length
   ·obtain⟨x,va,vx,bb,off,cap',bH,dn,⟨c0,c1,c2,c3,c4,c5,c6,c7,c8,c9⟩,h1,h2⟩:=recAt Hr.O M4.O.ok k hlt;cases dn;obtain⟨xa,xc,rfl,_,_,_⟩:=id h1;obtain⟨xx,xd,rfl,_,_,_⟩:=id h2;have A5:=Qh (M4.O.past (.cells #[.int .i64 x.mh,.int .i64 x.dm.ai,S x.dm.af,.slice xa x.dm.ag.length xc,S x.dm.target,.int .i64 x.dm.size,S x.dm.aj,.slice xx x.dm.ak.length xd,S x.aU,.int .i64 x.err] 38));by_cases h0:x.err=0
    ·have k1:(x.err==0)=true:=by simpa using h0
     have Xf:=Qh (fun w hw=>Xme J (HG.O.mono Hk.O) tx x.aU (by omega) (Vd.O x (by rw[←bH];exact List.getElem_mem hlt) h0) w hw);clear bH h1 h2 h0 M4;go_wp2_with fail
     refine(Xf.O _ A5.O.ok).mono ?_;rintro e6 w6 ⟨rfl,rfl⟩;go_wp2;go_roundw;case rel=>exact⟨k+1,by omega,by go_num,A5.O⟩
     case measure=>simp[intOf];omega
    ·have k1:(x.err==0)=false:=by simpa using h0
     clear bH h1 h2 h0 M4;go_wp2;go_roundw;case rel=>exact⟨k+1,by omega,by go_num,A5.O⟩
     case measure=>simp[intOf];omega
   ·go_wp2_with fail
    refine(Ju.O J Hk.O _ M4.O.ok).mono ?_;rintro e6 w6 ⟨vg,J6,rfl,gp,hx6,lg,zA⟩;have ZY:=Qh (show ∀b c,I b=some c→J6 b=some c from fun b c h=>hx6.keep M4.O.ok (Qn _) b c (Hk.O b c h));have A6:=Qh (show lY I w J6 w6 from⟨lg,ZY.O,M4.O.dE.trans (gp.mono M4.O.dE.size)⟩);have mK:=Qh (Sd.O J6 ZY.O _ zA);clear gp hx6 lg zA M4;go_wp2_with fail
    refine(mK.O _ A6.O.ok).mono ?_;rintro e7 w7 ⟨rfl,jC⟩;have A7:=Qh (A6.O.quiet jC);clear jC A6;go_wp2_with fail
    refine(Xkw tx ZX Ve.O _).mono ?_;rintro e8 w8 ⟨rfl,rfl⟩;go_wp2_with fail
    refine(ZW.O J6 ZY.O _ A7.O.ok).mono ?_;rintro e9 w9 ⟨rfl,ig⟩;have A9:=Qh (A7.O.quiet ig);clear ig A7;go_wp2;go_ret;exact⟨rfl,A9.O.dE⟩
