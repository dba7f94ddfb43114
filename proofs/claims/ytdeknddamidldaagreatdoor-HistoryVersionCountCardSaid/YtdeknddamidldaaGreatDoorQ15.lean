/-
  Walks and laws that the claim's theorem uses: texts CkF, joined; comments out. Conditions: as each theorem says.
-/
import Derived.Test.YtdeknddamidldaaGreatDoorQ14
import Derived.Tactics
namespace Go.Proofs.YtdeknddamidldaaGreatDoor
open Go.RowKit
theorem Xbi {fn:Func} {p u q:Tmp} {ty:TypeId} (h:fn.results= #[.cell p ty,.tmp u,.tmp q]) (tmps:Array Value) (P:Program) (w:World):
 (results fn tmps).run P w=
   ((asAddr (tmps.getD p undef)).run P w).andThen fun a w₁=>((loadVar ty a).run P w₁).andThen fun v w₂=> .ok (.tuple #[v,tmps.getD u undef,tmps.getD q undef]) w₂:=by
 simp only [results,h]
 simp [Sem.run_bind,Result.andThen]
structure StoOk (L C:Nat) (s:Sto):Prop where
 i0: -9223372036854775808≤s.ses
 i1:s.ses≤9223372036854775807
 str:s.str.length≤L
 cks:s.cks.length≤C
 cx:∀c∈s.cks,XB 65536 c.x
def PutR (I:IH) (w:World) (p:Sto × List Xt × Int) (e:Ending) (w':World):Prop:=
 ∃vc' vx' I',e= .returned (.tuple #[stoV p.1 vc',vx',.int .i64 p.2.2])∧Below w.heap.size w w'∧Ext w.heap.size I I'∧Ok I' w'∧RdS tCk I' vc' p.1.cks∧RdS tXt I' vx' p.2.1
abbrev pkRow (dg:Bytes) (y:Xt):Array Value:= #[S dg,.int .i64 y.s,.int .i64 y.o,.int .i64 y.n]
abbrev pkL (n:Nat) (vk:Value) (dg:Bytes) (y:Xt) (x:A2X):List (Option Tmp × Value):=
 [(some 96,.slice (some ⟨x.e,0,none⟩) 0 0),(some 97,.pointer (some ⟨n,0,none⟩)),(some 98,vk),(some 99,x.v1),(some 100,S dg),(some 101,.agg #[.int .i64 y.s,.int .i64 y.o,.int .i64 y.n]),(some 102,.agg (pkRow dg y)),
  (some 103,.slice (some ⟨x.b,0,none⟩) 1 1),(some 104,x.v2),(some 105,.pointer (some ⟨n,0,none⟩)),(none,undef)]
theorem Xan {n:Nat} {vk:Value} {dg:Bytes} {y:Xt} {x:A2X}:ApartF (pkL n vk dg y x):=by
 unfold ApartF
 simp
theorem Xoa {n:Nat} {vk:Value} {dg:Bytes} {y:Xt} {x z:A2X} {s:Array Bool} {a:Act} (i:Nat) (h:∀j,j≠i→(pkL n vk dg y x)[j]? =(pkL n vk dg y z)[j]?) (hun:s.getD i true=false):fillA (pkL n vk dg y x) 0 s a=fillA (pkL n vk dg y z) 0 s a:=Xh1 i rfl h hun
def PkC (n:Nat) (J:IH) (w3:World) (l:List Ck) (dg:Bytes) (y:Xt) (x:A2X) (s:Array Bool) (w:World):Prop:=
 (s.getD 10 false=false→A2C tCk 146 J w3 l ⟨dg,y⟩ (pkRow dg y) 0 3 7 8 x s w)∧(s.getD 10 false=true→ ∃w0,OwnS tCk 146 J w0 w3.heap.size x.v2 (l++ [⟨dg,y⟩])∧Below w3.heap.size w3 w0∧w=w0.setCell ⟨n,0,none⟩ x.v2)
theorem PkC.of {n:Nat} {J:IH} {w3 w:World} {l:List Ck} {dg:Bytes} {y:Xt} {x:A2X} {s:Array Bool} {i:Nat} (h:A2C tCk 146 J w3 l ⟨dg,y⟩ (pkRow dg y) 0 3 7 8 x (s.setIfInBounds i true) w) (hl:s.getD 10 false=false) (hi:i≠10):PkC n J w3 l dg y x (s.setIfInBounds i true) w:=
 ⟨fun _=>h,fun q=>by rw [getD_set_ne false hi,hl] at q;cases q⟩
set_option maxRecDepth 100000 in
set_option maxHeartbeats 4000000 in
theorem Xk1 (L C:Nat) (hL:L≤4294967296) (hC:C≤10000000) (I:IH) (s:Sto) (vc:Value) (hv:RdS tCk I vc s.cks) (hs:StoOk L C s) (c:Bytes) (hc:c.length≤4294967280) (w:World) (hw:Ok I w):
 Calls Tryz.prog 51 #[stoV s vc,S c] w (PutR I w (putP s c)):=by
 obtain ⟨ao,cap,rfl,_,_,_⟩:=id hv
 have Hv:=Qh hv
 have b0:Below w.heap.size w (w.alloc (.cells #[.slice ao s.cks.length cap,.int .i64 s.ses,S s.str] 91)):=(Qb _ _).alloc (Qn _) _
 have Hi3:=Qh (show (Tryz.prog.info? 91).map (·.size)=some 3 by kernel_rfl)
 have Hrow:=Qh (fun c:Array Value=>show ((w.alloc (.cells #[.slice ao s.cks.length cap,.int .i64 s.ses,S s.str] 91)).alloc (.cells c 91)).heap[w.heap.size+1]? =some (.cells c 91 (0,0)) by have:=heap_alloc_new (w.alloc (.cells #[.slice ao s.cks.length cap,.int .i64 s.ses,S s.str] 91)) (.cells c 91);simpa using this)
 clear hv
 by_cases h1:s.ses<1
 ·have d1:decide (s.ses<1)=true:=Qt h1
  have Hn:=Qh (show putP s c=(s,[],1) by rw [putP,if_pos (.inl h1)])
  clear h1
  go_enter Tryz.func51,Tryz.ntmps51
  go_wp2
  refine bodyPost_ret (v:= .tuple #[stoV s (.slice ao s.cks.length cap),.slice none 0 0,.int .i64 1]) ?_ rfl ?_
  ·rw [Xbi rfl]
   simp [asAddr,run_loadVar_row _ (w.heap.size+1) 91 91 #[.slice ao s.cks.length cap,.int .i64 s.ses,S s.str] (0,0) _ (Hrow.out _) Tryz.underlying91 rfl Hi3.out]
  ·rw [Hn.out]
   exact ⟨_,_,I,rfl,b0.alloc b0.size _,Ext.refl _ _,(hw.alloc _).alloc _,Hv.out,RdS.nil _ _⟩
 have d1:decide (s.ses<1)=false:=Qf h1
 by_cases h2:255<s.ses
 ·have d2:decide (255<s.ses)=true:=Qt h2
  have Hn:=Qh (show putP s c=(s,[],1) by rw [putP,if_pos (.inr h2)])
  clear h1 h2
  go_enter Tryz.func51,Tryz.ntmps51
  go_wp2
  refine bodyPost_ret (v:= .tuple #[stoV s (.slice ao s.cks.length cap),.slice none 0 0,.int .i64 1]) ?_ rfl ?_
  ·rw [Xbi rfl]
   simp [asAddr,run_loadVar_row _ (w.heap.size+1) 91 91 #[.slice ao s.cks.length cap,.int .i64 s.ses,S s.str] (0,0) _ (Hrow.out _) Tryz.underlying91 rfl Hi3.out]
  ·rw [Hn.out]
   exact ⟨_,_,I,rfl,b0.alloc b0.size _,Ext.refl _ _,(hw.alloc _).alloc _,Hv.out,RdS.nil _ _⟩
 have d2:decide (255<s.ses)=false:=Qf h2
 by_cases h3:65536<c.length
 ·have d3:decide ((65536:Int)<(c.length:Int))=true:=Qt (by omega)
  have Hn:=Qh (show putP s c=(s,[],6) by rw [putP,if_neg (by omega),if_pos h3])
  clear h1 h2 h3
  go_enter Tryz.func51,Tryz.ntmps51
  go_wp2
  refine bodyPost_ret (v:= .tuple #[stoV s (.slice ao s.cks.length cap),.slice none 0 0,.int .i64 6]) ?_ rfl ?_
  ·rw [Xbi rfl]
   simp [asAddr,run_loadVar_row _ (w.heap.size+1) 91 91 #[.slice ao s.cks.length cap,.int .i64 s.ses,S s.str] (0,0) _ (Hrow.out _) Tryz.underlying91 rfl Hi3.out]
  ·rw [Hn.out]
   exact ⟨_,_,I,rfl,b0.alloc b0.size _,Ext.refl _ _,(hw.alloc _).alloc _,Hv.out,RdS.nil _ _⟩
 have d3:decide ((65536:Int)<(c.length:Int))=false:=Qf (by omega)
 have hc2:c.length≤65536:=by omega
 obtain ⟨R,hR⟩:∃R,(segsP c).foldl putG (s,[])=R:=⟨_,rfl⟩
 have Hn:=Qh (show putP s c=(R.1,R.2,0) by rw [putP,if_neg (by omega),if_neg h3,hR])
 have HR:=Qh (show ((segsP c).drop 0).foldl putG (s,[])=R from hR)
 have Hsp:=Qh (fun w=>Xm7 I c hc w)
 have Hform:=Qh (Xks (s:=c))
 have hsz:segSz ((segsP c).drop 0)≤65536:=by rw [List.drop_zero,Xkr];exact hc2
 have hsl:(segsP c).length≤65536:=Nat.le_trans (Xs3 c) hc2
 have HB:=Qh (show BdP L C 0 s [] from ⟨by omega,by omega,by have:=hs.str;omega,by have:=hs.cks;omega,hs.cx,Qn _,fun _ h=>(by cases h)⟩)
 have HM0:=Qh (PutM.new hw Hv.out)
 have hb0:Below w.heap.size w (((w.alloc (.cells #[.slice ao s.cks.length cap,.int .i64 s.ses,S s.str] 91)).alloc (.cells #[.slice none 0 0,.int .i64 0,S []] 91)).alloc (.cells #[] 73)):=(b0.alloc b0.size _).alloc (b0.alloc b0.size _).size _
 generalize segsP c=segs at HR Hsp Hform hsz hsl
 clear h1 h2 h3 hR hs Hrow
 go_enter Tryz.func51,Tryz.ntmps51
 go_wp2_with fail
 generalize hW5:(((w.alloc (.cells #[.slice ao s.cks.length cap,.int .i64 s.ses,S s.str] 91)).alloc (.cells #[.slice none 0 0,.int .i64 0,S []] 91)).alloc (.cells #[] 73))=w5 at HM0 hb0 ⊢
 clear hW5 b0
 refine (Hsp.out _).mono ?_
 rintro e6 w6 ⟨vs,rfl,hos,hb6⟩
 obtain ⟨J0,hx0,hok0,hrs,_⟩:=hos.freeze (HM0.out.ok.below (Qn _) hb6) (fun b hb=>HM0.out.ok.fresh hb)
 have HM1:=Qh (HM0.out.ext hb6 hx0 hok0)
 have hb1:=hb0.trans (hb6.mono hb0.size)
 have Hx0:=Qh (hx0.mono hb0.size)
 have Hrs:=Qh hrs
 have hsl2:=hrs.len_le
 obtain ⟨as',cs',rfl,_,_,_⟩:=id hrs
 clear HM0 hb0 Hsp hos hb6 hx0 hok0 hrs
 go_wp2_with fail
 go_loopw [7,9] (fun s7 s9 wr=> ∃(k m:Nat) (q:Sto) (l:List Xt) (vc':Value) (J:IH),k≤segs.length∧s9= .int .i64 k∧(segs.drop k).foldl putG (q,l)=R∧BdP L C m q l∧m+segSz (segs.drop k)≤65536∧PutM w.heap.size J wr q l vc' s7∧RdS tSg J (.slice as' segs.length cs') segs∧Ext w.heap.size I J∧Below w.heap.size w wr) (fun _ i _=>segs.length-(intOf i).toNat)
 case atStart=>exact ⟨0,0,s,[],_,J0,Nat.zero_le _,rfl,HR.out,HB.out,by omega,HM1.out,Hrs.out,Hx0.out,hb1⟩
 case round=>
  clear HM1 HR HB Hx0 Hrs hb1
  obtain ⟨k,m,q,l,vc',J,hk,rfl,hr,hbd,hms,hM,hrs,hx,hb⟩:=hrel
  have Hr:=Qh hr
  have HBd:=Qh hbd
  have HM:=Qh hM
  have Hrs:=Qh hrs
  have Hx:=Qh hx
  have hok:Ok J wr:=hM.ok
  have hlt2:=hM.lt
  have hlen:=hbd.len
  have c0:=hM.c0
  have c1:=hM.c1
  have c2:=hM.c2
  obtain ⟨ak,ck,rfl,_,_,_⟩:=id hM.cks
  clear hr hbd hM hrs hx
  by_cases hlt:k<segs.length
  ·obtain ⟨g,b,off,cap',hlg,hvv,x0,x1⟩:=sgAt Hrs.out hok k hlt
   cases hvv
   have Hgf:=Qh (Hform.out g (by rw [←hlg];exact List.getElem_mem hlt))
   have hsd:segSz (segs.drop k)=g.n.toNat+g.d.length+segSz (segs.drop (k+1)):=by rw [List.drop_eq_getElem_cons hlt,hlg,Xfm]
   have Hst:=Qh (Xlt hlt hlg Hr.out)
   rw [hsd] at hms
   clear hsd hlg Hr
   by_cases hd:g.d= []
   ·have hg0:0<g.n:=by rcases Hgf.out with ⟨_,h⟩|⟨h,_⟩;exact absurd hd h;exact h
    obtain ⟨p1,p2,p3,p4⟩:=Xcy hd
    have hgl:g.d.length=0:=by rw [hd];rfl
    have hxb:XB 65536 ⟨0,0,g.n⟩:=by unfold XB;simp only;omega
    have Hn2:=Qh (show (segs.drop (k+1)).foldl putG (q,addX l ⟨0,0,g.n⟩)=R by have:=Hst.out;rwa [putG,if_pos hd] at this)
    have HB2:=Qh (HBd.out.add hxb)
    have hxs:=fun z hz=>(HBd.out.xs z hz).mono (show (65536*m:Int)≤1099511627776 by omega)
    have hxb2:=hxb.mono (show (65536:Int)≤1099511627776 by omega)
    clear hd Hst
    go_wp2_with fail
    refine (Xhg J (w.heap.size+2) _ _ ⟨0,0,g.n⟩ wr HM.out.own (by have:=HM.out.lt;omega) (by omega) hxs hxb2).mono ?_
    rintro e9 w9 ⟨v9,rfl,ho9,hg9,hl9⟩
    have HM9:=Qh (HM.out.added ho9 hg9 hl9)
    have hb9:=Below.own hb hg9 HM.out.own (by omega) (by have:=HM.out.lt;omega)
    clear ho9 hg9 hl9
    go_wp2
    go_roundw
    case rel=>exact ⟨k+1,m+1,q,_,_,J,by omega,by go_num,Hn2.out,HB2.out,by omega,HM9.out,Hrs.out,Hx.out,hb9⟩
    case measure=>simp [intOf];omega
   ·obtain ⟨p1,p2,p3,p4⟩:=Xcq hd
    have hn0:g.n=0:=by rcases Hgf.out with ⟨h,_⟩|⟨_,h⟩;exact h;exact absurd h hd
    have hcl:=Xp2 g.d
    have Hcm:=Qh (fun x (hx:x∈chunksP g.d)=>show x.length≤65536 by have:=Xei hx;rw [Xns] at this;omega)
    have Hst2:=Qh (show (segs.drop (k+1)).foldl putG (((chunksP g.d).drop 0).foldl putO (q,l))=R by have:=Hst.out;rwa [putG,if_neg hd] at this)
    have Hsp:=Qh (fun w=>Xm8 J g.d (by omega) w)
    obtain ⟨Q,hQ⟩:∃Q,((chunksP g.d).drop 0).foldl putO (q,l)=Q:=⟨_,rfl⟩
    have HQ:=Qh hQ
    rw [hQ] at Hst2
    have hms2:m+(chunksP g.d).length+segSz (segs.drop (k+1))≤65536:=by omega
    generalize chunksP g.d=cs at hcl Hcm HQ Hsp hms2
    clear hd hQ Hst hms
    go_wp2_with fail
    refine (Hsp.out _).mono ?_
    rintro e3 w3 ⟨v3,rfl,ho3,hb3⟩
    obtain ⟨J3,hx3,hok3,hrc,_⟩:=ho3.freeze (hok.below (Qn _) hb3) (fun b hb=>hok.fresh hb)
    have HM3:=Qh (HM.out.ext hb3 hx3 hok3)
    have hb3':=hb.trans (hb3.mono hb.size)
    have Hx3:=Qh (Hx.out.trans hx3 hb.size)
    have Hrs3:=Qh (Hrs.out.mono (hx3.keep hok (Qn _)))
    have Hrc:=Qh hrc
    have hrl:=hrc.len_le
    obtain ⟨ac,cc,rfl,_,_,_⟩:=id hrc
    have HB3:=HBd
    clear ho3 hb3 hx3 hok3 hrc HM HBd Hx Hrs c0 c1 c2 x0 x1 hlen hok hb
    go_wp2_with fail
    go_loopw [7,11] (fun s7 s11 wr=> ∃(j m:Nat) (q:Sto) (l:List Xt) (vc':Value) (J:IH),j≤cs.length∧s11= .int .i64 j∧(cs.drop j).foldl putO (q,l)=Q∧BdP L C m q l∧m+(cs.length-j)+segSz (segs.drop (k+1))≤65536∧PutM w.heap.size J wr q l vc' s7∧RdS tSg J (.slice (some ⟨b,off,none⟩) segs.length cs') segs∧RdS tStr J (.slice ac cs.length cc) cs∧Ext w.heap.size I J∧Below w.heap.size w wr) (fun _ i _=>cs.length-(intOf i).toNat)
    case atStart=>exact ⟨0,m,q,l,_,J3,Nat.zero_le _,rfl,HQ.out,HB3.out,by omega,HM3.out,Hrs3.out,Hrc.out,Hx3.out,hb3'⟩
    case round=>
     clear HM3 HQ HB3 Hx3 Hrs3 Hrc hb3' hms2 hlt2
     obtain ⟨j,m,q,l,vc',J,hj,rfl,hr,hbd,hms,hM,hrs,hrc,hx,hb⟩:=hrel
     have Hr:=Qh hr
     have HBd:=Qh hbd
     have HM:=Qh hM
     have Hrs:=Qh hrs
     have Hrc:=Qh hrc
     have Hx:=Qh hx
     have hok:Ok J wr:=hM.ok
     have hlt2:=hM.lt
     have hlen:=hbd.len
     have hckl:=hbd.cks
     have c0:=hM.c0
     have c1:=hM.c1
     have c2:=hM.c2
     obtain ⟨ak,ck,rfl,_,_,_⟩:=id hM.cks
     clear hr hbd hM hrs hx hrc
     by_cases hjt:j<cs.length
     ·obtain ⟨x,bz,offz,capz,hlz,hvv,x0⟩:=Xg7 Hrc.out hok j hjt
      cases hvv
      have hxm:x.length≤65536:=Hcm.out x (by rw [←hlz];exact List.getElem_mem hjt)
      have Hst:=Qh (Xlt hjt hlz Hr.out)
      have HMa:=Qh (HM.out.past (.cells #[S x] 9))
      have Hsum:=Qh (Xit wr.heap.size 0 1 x (by omega) (wr.alloc (.cells #[S x] 9)) (by simp))
      have hba:=hb.alloc hb.size (.cells #[S x] 9)
      have x0a:=Xab (.cells #[S x] 9) x0
      obtain ⟨dg,hdg⟩:∃dg,sumP x=dg:=⟨_,rfl⟩
      have Hhit:=Qh (fun y (h:findX q.cks (sumP x)=some y)=>Xur (l:=l) h)
      have Hnew:=Qh (fun (h:findX q.cks (sumP x)=none)=>Xuq (l:=l) h)
      rw [hdg] at Hsum Hhit Hnew
      clear hlz Hr HM c0 c1 c2 hb hdg
      go_wp2_with fail
      refine Hsum.out.mono ?_
      rintro e5 w5 ⟨rfl,hb5⟩
      have HM5:=Qh (HMa.out.below hb5)
      have hb5':=hba.trans (hb5.mono hba.size)
      have x05:=Xaa hb5 x0a
      have hok5:=HM5.out.ok
      have c0:=HM5.out.c0
      have c1:=HM5.out.c1
      have c2:=HM5.out.c2
      clear x0 x0a hb5 hba HMa Hsum hok
      have Hfi:=Qh (Xpg J q _ HM5.out.cks dg w5 hok5)
      have hxs:=fun z hz=>(HBd.out.xs z hz).mono (show (65536*m:Int)≤1099511627776 by omega)
      have Hfd:=Qh (show findR q.cks dg=match findX q.cks dg with|some x=>(x,true)|none=>(⟨0,0,0⟩,false) from rfl)
      have Hmm:=Qh (fun y (h:findX q.cks dg=some y)=>Xlv h)
      cases hfx:findX q.cks dg with
      |some y=>
       rw [hfx] at Hfd
       rw [Hfd.out] at Hfi
       have hyb:XB 65536 y:=by
        obtain ⟨z,hz,rfl⟩:=Hmm.out y hfx
        exact HBd.out.cx z hz
       have hyb2:=hyb.mono (show (65536:Int)≤1099511627776 by omega)
       have Hn2:=Qh (show (cs.drop (j+1)).foldl putO (q,addX l y)=Q by have:=Hst.out;rwa [Hhit.out y hfx] at this)
       have HB2:=Qh (HBd.out.add hyb)
       clear hfx Hfd Hmm Hhit Hnew Hst
       go_wp2_with fail
       refine Hfi.out.mono ?_
       rintro e6 w6 ⟨rfl,hb6⟩
       have HM6:=Qh ((HM5.out.below hb6).past (.cells #[.int .i64 y.s,.int .i64 y.o,.int .i64 y.n] 73))
       have hb6':=(hb5'.trans (hb6.mono hb5'.size)).alloc (hb5'.trans (hb6.mono hb5'.size)).size (.cells #[.int .i64 y.s,.int .i64 y.o,.int .i64 y.n] 73)
       clear HM5 hb5' x05 hok5 c0 c1 c2 hb6 Hfi
       go_wp2_with fail
       refine (Xhg J (w.heap.size+2) _ _ y (w6.alloc (.cells #[.int .i64 y.s,.int .i64 y.o,.int .i64 y.n] 73)) HM6.out.own (by have:=HM6.out.lt;omega) (by omega) hxs hyb2).mono ?_
       rintro e9 w9 ⟨v9,rfl,ho9,hg9,hl9⟩
       have HM9:=Qh (HM6.out.added ho9 hg9 hl9)
       have hb9:=Below.own hb6' hg9 HM6.out.own (by omega) (by have:=HM6.out.lt;omega)
       clear ho9 hg9 hl9
       go_wp2
       go_roundw
       case rel=>exact ⟨j+1,m+1,q,_,_,J,by omega,by go_num,Hn2.out,HB2.out,by omega,HM9.out,Hrs.out,Hrc.out,Hx.out,hb9⟩
       case measure=>simp [intOf];omega
      |none=>
       rw [hfx] at Hfd
       rw [Hfd.out] at Hfi
       have Hn2:=Qh (show (cs.drop (j+1)).foldl putO (⟨q.cks++ [⟨dg,newX q x⟩],q.ses,q.str++x⟩,addX l (newX q x))=Q by have:=Hst.out;rwa [Hnew.out hfx] at this)
       have HB2:=Qh (HBd.out.grow' hL (by omega) hxm (dg:=dg))
       have hnb:=Xjs HBd.out hL (by omega) hxm
       have hnb2:=hnb.mono (show (65536:Int)≤1099511627776 by omega)
       have hstl:=HBd.out.str
       clear hfx Hfd Hmm Hhit Hnew Hst
       go_wp2_with fail
       refine Hfi.out.mono ?_
       rintro e6 w6 ⟨rfl,hb6⟩
       have HM6:=Qh (HM5.out.below hb6)
       have hb6':=hb5'.trans (hb6.mono hb5'.size)
       have x06:=Xaa hb6 x05
       clear HM5 hb5' x05 hok5 c0 c1 c2 hb6 Hfi
       have HM8:=Qh (HM6.out.past (.cells #[.int .i64 0,.int .i64 0,.int .i64 0] 73))
       have hb8:=hb6'.alloc hb6'.size (.cells #[.int .i64 0,.int .i64 0,.int .i64 0] 73)
       have x08:=Xab (.cells #[.int .i64 0,.int .i64 0,.int .i64 0] 73) x06
       have hrow8:=heap_alloc_new w6 (.cells #[.int .i64 0,.int .i64 0,.int .i64 0] 73)
       have hJb:J w6.heap.size=none:=HM6.out.ok.fresh (Qn _)
       have hvb:u7.ownBlock≠some w6.heap.size:=fun e=>by have:=(Xk9 HM6.out.own e).2;omega
       have hbl:=HM6.out.lt
       go_wp2_with fail
       generalize w6.heap.size=bx at hrow8 hJb hvb hbl ⊢
       generalize w6.alloc (.cells #[.int .i64 0,.int .i64 0,.int .i64 0] 73)=w8 at HM8 hb8 x08 hrow8 ⊢
       clear HM6 hb6' x06
       have c1:=HM8.out.c1
       have c2:=HM8.out.c2
       have z0:w8.cell? ⟨bx,0,none⟩=some (.int .i64 0):=(cell_of_row w8 _ 0 _ _ _ hrow8).trans rfl
       have z1:w8.cell? ⟨bx,1,none⟩=some (.int .i64 0):=(cell_of_row w8 _ 1 _ _ _ hrow8).trans rfl
       have z2:w8.cell? ⟨bx,2,none⟩=some (.int .i64 0):=(cell_of_row w8 _ 2 _ _ _ hrow8).trans rfl
       have f0:=frozen_of_row w8 _ 0 _ _ hrow8
       have f1:=frozen_of_row w8 _ 1 _ _ hrow8
       have f2:=frozen_of_row w8 _ 2 _ _ hrow8
       have Hrow8:=Qh hrow8
       clear hrow8
       go_big_region
       have HM9:=Qh ((((HM8.out.setO hbl hJb hvb 0 (.int .i64 q.ses)).setO hbl hJb hvb 1 (.int .i64 (q.str.length:Nat))).setO hbl hJb hvb 2 (.int .i64 (x.length:Nat))).drew)
       have hb9:=(((hb8.setCell (p:=⟨bx,0,none⟩) (show w.heap.size≤bx by omega) (.int .i64 q.ses)).setCell (p:=⟨bx,1,none⟩) (show w.heap.size≤bx by omega) (.int .i64 (q.str.length:Nat))).setCell (p:=⟨bx,2,none⟩) (show w.heap.size≤bx by omega) (.int .i64 (x.length:Nat))).drew
       have hrow9:((((w8.setCell ⟨bx,0,none⟩ (.int .i64 q.ses)).setCell ⟨bx,1,none⟩ (.int .i64 (q.str.length:Nat))).setCell ⟨bx,2,none⟩ (.int .i64 (x.length:Nat))).drew).heap[bx]? =some (.cells #[.int .i64 q.ses,.int .i64 (q.str.length:Nat),.int .i64 (x.length:Nat)] 73 (0,0)):=Xe0 Hrow8.out
       have hbz:bz≠bx:=fun e=>by
        have h1:=x08
        rw [e,cell_of_row w8 bx _ _ _ _ Hrow8.out] at h1
        have h2:(S x:Value)∈(#[.int .i64 0,.int .i64 0,.int .i64 0]:Array Value):=Array.mem_of_getElem? h1
        simp at h2
       have x09:((((w8.setCell ⟨bx,0,none⟩ (.int .i64 q.ses)).setCell ⟨bx,1,none⟩ (.int .i64 (q.str.length:Nat))).setCell ⟨bx,2,none⟩ (.int .i64 (x.length:Nat))).drew).cell? ⟨bz,offz+j,none⟩=some (S x):=by
        rw [World.cell?_drew,World.cell?_of_block (Below.heap_setCell _ _ _ _ hbz),World.cell?_of_block (Below.heap_setCell _ _ _ _ hbz),World.cell?_of_block (Below.heap_setCell _ _ _ _ hbz)];exact x08
       have hst2:q.str.length+x.length≤9223372036854775807:=by omega
       clear HM8 hb8 x08 c1 c2 z0 z1 z2 f0 f1 f2 Hrow8
       generalize (((w8.setCell ⟨bx,0,none⟩ (.int .i64 q.ses)).setCell ⟨bx,1,none⟩ (.int .i64 (q.str.length:Nat))).setCell ⟨bx,2,none⟩ (.int .i64 (x.length:Nat))).drew=w9 at HM9 hb9 hrow9 x09 ⊢
       have c2:=HM9.out.c2
       have f2:=HM9.out.fr 2
       have hrow9b:=Qh hrow9
       clear hrow9
       go_wp2_with fail
       go_big_region
       have HM10:=Qh ((HM9.out.set2 (q.str++x)).drew)
       have hb10:=(hb9.setCell (p:=⟨w.heap.size,2,none⟩) (Qn _) (S (q.str++x))).drew
       have hrow10:=(Below.heap_setCell w9 ⟨w.heap.size,2,none⟩ (S (q.str++x)) bx (show bx≠w.heap.size by omega)).trans hrow9b.out
       change ((w9.setCell ⟨w.heap.size,2,none⟩ (S (q.str++x))).drew).heap[bx]? =_ at hrow10
       clear HM9 hb9 hrow9b x09 c2 f2
       generalize (w9.setCell ⟨w.heap.size,2,none⟩ (S (q.str++x))).drew=w10 at HM10 hb10 hrow10 ⊢
       go_wp2_with fail
       have hok10:=HM10.out.ok
       have hckl2:=HBd.out.cks
       have Hs1:=Qh (fun (W:World) (hW:Ok J W)=>SrcS.of_rd (T:=tCk) HM10.out.cks hW (by decide))
       have hfr:∀b,w10.heap.size≤b→J b=none:=fun b hb=>hok10.fresh hb
       have hsz10:=hb10.size
       have hlt10:=HM10.out.lt
       have hbx10:bx<w10.heap.size:=(Array.getElem?_eq_some_iff.1 hrow10).1
       have c0:=HM10.out.c0
       have f0:=HM10.out.fr 0
       have z0:w10.cell? ⟨bx,0,none⟩=some (.int .i64 q.ses):=(cell_of_row w10 _ 0 _ _ _ hrow10).trans rfl
       have z1:w10.cell? ⟨bx,1,none⟩=some (.int .i64 (q.str.length:Nat)):=(cell_of_row w10 _ 1 _ _ _ hrow10).trans rfl
       have z2:w10.cell? ⟨bx,2,none⟩=some (.int .i64 (x.length:Nat)):=(cell_of_row w10 _ 2 _ _ _ hrow10).trans rfl
       obtain ⟨y,hy⟩:∃y,newX q x=y:=⟨_,rfl⟩
       have hy0:q.ses=y.s:=by rw [←hy];rfl
       have hy1:((q.str.length:Nat):Int)=y.o:=by rw [←hy];rfl
       have hy2:((x.length:Nat):Int)=y.n:=by rw [←hy];rfl
       rw [hy0] at z0
       rw [hy1] at z1
       rw [hy2] at z2
       rw [hy] at Hn2 HB2 hnb hnb2
       have Hy:=Qh hy
       clear hrow10 hy hy0 hy1 hy2
       refine Xcc (X:=A2X) (pkL w.heap.size (.slice ak q.cks.length ck) dg y) (PkC w.heap.size J w10 q.cks dg y) (by kernel_rfl) (by kernel_rfl) ?_ ?_ ?_
       ·exact ⟨⟨0,0,undef,undef⟩,fun _=>A2C.start _ _,fun q=>(by rw [Xbn] at q;cases q)⟩
       ·rintro x' s' a' w' i hsz hcl ha hC hi
        obtain ⟨hun,oi,hoi,hall⟩:=mem_ready.1 hi
        rcases i with _|_|_|_|_|_|_|_|_|_|_|i
        rotate_left 11
        ·simp at hoi
        all_goals
         have hoj:=hoi
         simp at hoi
         subst hoi
         simp [Region.binds] at hall
        ·have hl:s'.getD 10 false=false:=Xai hcl [8,3,0] (by kernel_rfl) (by rfl) hun
         have ha:=ha.trans (Xoa (x:=x') (z:= { x' with e:=w'.heap.size }) 0 (fun j hne=>by
          rcases j with _|j<;>first|rfl|(exact absurd rfl hne)|simp) hun)
         refine wpOp_step hoj (fun K' hK=> ?_)
         rw [if_pos (by rfl)]
         unfold Oper.wp
         simp [go_sem,Oper.upon]
         exact hK _ _ ⟨{ x' with e:=w'.heap.size },Xaf (d:=some 96) (v:= .slice (some ⟨w'.heap.size,0,none⟩) 0 0) Xan ha rfl hun,PkC.of ((hC.1 hl).at0 hun (by decide)) hl (by decide)⟩
        ·have e2:a'.tmps[2]?.getD undef= .pointer (some ⟨w.heap.size,0,none⟩):=Xbv ha (by simp)
         have hl:s'.getD 10 false=false:=Xai hcl [8,3,2,1] (by kernel_rfl) (by rfl) hun
         refine wpOp_step hoj (fun K' hK=> ?_)
         rw [if_pos (by rfl)]
         unfold Oper.wp
         simp [go_sem,e2,Oper.upon]
         exact hK _ _ ⟨x',Xaf (d:=some 97) (v:=(.pointer (some ⟨w.heap.size,0,none⟩))) Xan ha rfl hun,PkC.of ((hC.1 hl).step (Qb _ _) (by decide) (by decide) (by decide) (by decide)) hl (by decide)⟩
        ·have e97:a'.tmps[97]?.getD undef= .pointer (some ⟨w.heap.size,0,none⟩):=Xaq (i:=1) Xan ha rfl (by first|simpa using hall|simpa using hall.1) (by simp)
         have c0':=Xaa (hC.1 (Xai hcl [8,3,2] (by kernel_rfl) (by rfl) hun)).bel c0
         have hl:s'.getD 10 false=false:=Xai hcl [8,3,2] (by kernel_rfl) (by rfl) hun
         refine wpOp_step hoj (fun K' hK=> ?_)
         rw [if_pos (by rfl)]
         unfold Oper.wp
         simp [go_sem,e97,c0',Oper.upon]
         exact hK _ _ ⟨x',Xaf (d:=some 98) (v:=(.slice ak q.cks.length ck)) Xan ha rfl hun,PkC.of ((hC.1 hl).step (Qb _ _) (by decide) (by decide) (by decide) (by decide)) hl (by decide)⟩
        ·have hl:s'.getD 10 false=false:=Xai hcl [8,3] (by kernel_rfl) (by rfl) hun
         have e96:a'.tmps[96]?.getD undef= .slice (some ⟨x'.e,0,none⟩) 0 0:=Xaq (i:=0) Xan ha rfl (by simpa using hall.1) (by simp)
         have e98:a'.tmps[98]?.getD undef= .slice ak q.cks.length ck:=Xaq (i:=2) Xan ha rfl (by first|simpa using hall.2|simpa using hall.2.1) (by simp)
         have hs0:s'.getD 0 false=true:=by simpa using hall.1
         have hokw:=hok10.below (Qn _) (hC.1 hl).bel
         refine wpOp_step hoj (fun K' hK=> ?_)
         rw [if_pos (by rfl)]
         refine Xbg Xse _ _ rfl (by simp [Act.eval,e96]) ((hC.1 hl).p0 hs0 (Xas hun)) (by simp [Act.eval,e98]) (Hs1.out w' hokw) (by simp only [List.length_nil];omega) (by simp only [List.length_nil];omega) (hC.1 hl).bel.size ?_
         intro v' w'' ho hg hlv
         have ha:=ha.trans (Xoa (x:=x') (z:= { x' with v1:=v' }) 3 (fun j hne=>by
          rcases j with _|_|_|_|j<;>first|rfl|(exact absurd rfl hne)|simp) hun)
         exact hK _ _ ⟨{ x' with v1:=v' },Xaf (d:=some 99) (v:=v') Xan ha rfl hun,PkC.of ((hC.1 hl).at2 hun hs0 (by decide) ho hg hlv) hl (by decide)⟩
        ·have e12:a'.tmps[12]?.getD undef=S dg:=Xbv ha (by simp)
         have hl:s'.getD 10 false=false:=Xai hcl [8,7,6,4] (by kernel_rfl) (by rfl) hun
         refine wpOp_step hoj (fun K' hK=> ?_)
         rw [if_pos (by rfl)]
         unfold Oper.wp
         simp [go_sem,e12,Oper.upon]
         exact hK _ _ ⟨x',Xaf (d:=some 100) (v:=(S dg)) Xan ha rfl hun,PkC.of ((hC.1 hl).step (Qb _ _) (by decide) (by decide) (by decide) (by decide)) hl (by decide)⟩
        ·have e13:a'.tmps[13]?.getD undef= .pointer (some ⟨bx,0,none⟩):=Xbv ha (by simp)
         have hbw:=(hC.1 (Xai hcl [8,7,6,5] (by kernel_rfl) (by rfl) hun)).bel
         have z0':=Xaa hbw z0
         have z1':=Xaa hbw z1
         have z2':=Xaa hbw z2
         have hl:s'.getD 10 false=false:=Xai hcl [8,7,6,5] (by kernel_rfl) (by rfl) hun
         refine wpOp_step hoj (fun K' hK=> ?_)
         rw [if_pos (by rfl)]
         unfold Oper.wp
         simp [go_sem,e13,z0',z1',z2',Oper.upon]
         exact hK _ _ ⟨x',Xaf (d:=some 101) (v:=(.agg #[.int .i64 y.s,.int .i64 y.o,.int .i64 y.n])) Xan ha rfl hun,PkC.of ((hC.1 hl).step (Qb _ _) (by decide) (by decide) (by decide) (by decide)) hl (by decide)⟩
        ·have e100:a'.tmps[100]?.getD undef=S dg:=Xaq (i:=4) Xan ha rfl (by simpa using hall.1) (by simp)
         have e101:a'.tmps[101]?.getD undef= .agg #[.int .i64 y.s,.int .i64 y.o,.int .i64 y.n]:=Xaq (i:=5) Xan ha rfl (by first|simpa using hall.2|simpa using hall.2.1) (by simp)
         have hl:s'.getD 10 false=false:=Xai hcl [8,7,6] (by kernel_rfl) (by rfl) hun
         refine wpOp_step hoj (fun K' hK=> ?_)
         rw [if_pos (by rfl)]
         unfold Oper.wp
         simp [go_sem,e100,e101,Oper.upon]
         exact hK _ _ ⟨x',Xaf (d:=some 102) (v:=(.agg (pkRow dg y))) Xan ha rfl hun,PkC.of ((hC.1 hl).step (Qb _ _) (by decide) (by decide) (by decide) (by decide)) hl (by decide)⟩
        ·have hl:s'.getD 10 false=false:=Xai hcl [8,7] (by kernel_rfl) (by rfl) hun
         have e102:a'.tmps[102]?.getD undef= .agg (pkRow dg y):=Xaq (i:=6) Xan ha rfl (by first|simpa using hall|simpa using hall.1) (by simp)
         have ha:=ha.trans (Xoa (x:=x') (z:= { x' with b:=w'.heap.size }) 7 (fun j hne=>by
          rcases j with _|_|_|_|_|_|_|_|j<;>first|rfl|(exact absurd rfl hne)|simp) hun)
         refine wpOp_step hoj (fun K' hK=> ?_)
         rw [if_pos (by rfl)]
         unfold Oper.wp
         simp [go_sem,e102,Oper.upon]
         exact hK _ _ ⟨{ x' with b:=w'.heap.size },Xaf (d:=some 103) (v:= .slice (some ⟨w'.heap.size,0,none⟩) 1 1) Xan ha rfl hun,PkC.of ((hC.1 hl).at4 hun (by decide)) hl (by decide)⟩
        ·have hl:s'.getD 10 false=false:=Xai hcl [8] (by kernel_rfl) (by rfl) hun
         have e99:a'.tmps[99]?.getD undef=x'.v1:=Xaq (i:=3) Xan ha rfl (by simpa using hall.1) (by simp)
         have e103:a'.tmps[103]?.getD undef= .slice (some ⟨x'.b,0,none⟩) 1 1:=Xaq (i:=7) Xan ha rfl (by first|simpa using hall.2|simpa using hall.2.1) (by simp)
         have hs2:s'.getD 3 false=true:=by simpa using hall.1
         have hs4:s'.getD 7 false=true:=by first|simpa using hall.2|simpa using hall.2.1
         refine wpOp_step hoj (fun K' hK=> ?_)
         rw [if_pos (by rfl)]
         refine Xbg Xse _ _ rfl (by simp [Act.eval,e99]) ((hC.1 hl).p2 hs2 (Xas hun)) (by simp [Act.eval,e103]) (SrcS.of_one (T:=tCk) (x:=(⟨dg,y⟩:Ck)) (cs:= [S dg,.int .i64 y.s,.int .i64 y.o,.int .i64 y.n]) rfl (fun j u hu=>(cell_of_row w' _ j _ _ _ ((hC.1 hl).p4 hs4 (Xas hun))).trans (by simpa using hu))) (by simp only [List.length_nil,List.length_cons];omega) (by simp only [List.length_nil,List.length_cons];omega) (hC.1 hl).bel.size ?_
         intro v' w'' ho hg _
         have ha:=ha.trans (Xoa (x:=x') (z:= { x' with v2:=v' }) 8 (fun j hne=>by
          rcases j with _|_|_|_|_|_|_|_|_|j<;>first|rfl|(exact absurd rfl hne)|simp) hun)
         exact hK _ _ ⟨{ x' with v2:=v' },Xaf (d:=some 104) (v:=v') Xan ha rfl hun,PkC.of ((hC.1 hl).at5 hun hs2 hs4 (by decide) ho hg) hl (by decide)⟩
        ·have e2:a'.tmps[2]?.getD undef= .pointer (some ⟨w.heap.size,0,none⟩):=Xbv ha (by simp)
         have hl:s'.getD 10 false=false:=Xai hcl [9] (by kernel_rfl) (by rfl) hun
         refine wpOp_step hoj (fun K' hK=> ?_)
         rw [if_pos (by rfl)]
         unfold Oper.wp
         simp [go_sem,e2,Oper.upon]
         exact hK _ _ ⟨x',Xaf (d:=some 105) (v:=(.pointer (some ⟨w.heap.size,0,none⟩))) Xan ha rfl hun,PkC.of ((hC.1 hl).step (Qb _ _) (by decide) (by decide) (by decide) (by decide)) hl (by decide)⟩
        ·have hl:s'.getD 10 false=false:=Xas hun
         have e104:a'.tmps[104]?.getD undef=x'.v2:=Xaq (i:=8) Xan ha rfl (by first|simpa using hall.2.1|simpa using hall.2|simpa using hall.1) (by simp)
         have e105:a'.tmps[105]?.getD undef= .pointer (some ⟨w.heap.size,0,none⟩):=Xaq (i:=9) Xan ha rfl (by first|simpa using hall.1|simpa using hall.2.1|simpa using hall.2) (by simp)
         have hs8:s'.getD 8 false=true:=by first|simpa using hall.2.1|simpa using hall.2|simpa using hall.1
         have c0':=Xaa (hC.1 hl).bel c0
         have f0':w'.frozen? ⟨w.heap.size,0,none⟩=false:=by rw [←f0];exact World.frozen?_of_block ((hC.1 hl).bel.block _ (block_lt_of_cell c0))
         have ho5:=(hC.1 hl).p5 hs8
         obtain ⟨g2,n2,cp2,hv2⟩:=Xdz ho5
         rw [hv2] at e104
         refine wpOp_step hoj (fun K' hK=> ?_)
         rw [if_pos (by rfl)]
         unfold Oper.wp
         simp [go_sem,e104,e105,c0',f0',Oper.upon]
         exact hK _ _ ⟨x',Xaf (d:=none) (v:=undef) Xan ha rfl hun,fun q=>(by rw [Xav (Xgf hun)] at q;cases q),fun _=>⟨w',ho5,(hC.1 hl).bel,by rw [hv2]⟩⟩
       ·rintro ⟨xe,xb,xv1,xv2⟩ s' a' w4' hup ha hC
        obtain ⟨w4,hown2,hb4,rfl⟩:=hC.2 (hup 10 (by decide))
        dsimp only at hown2
        rw [Xb8 _ _ _ _ (fun i hi=>by rw [Nat.zero_add];exact hup i (by simpa using hi))] at ha
        subst ha
        obtain ⟨g2,n2,cp2,rfl⟩:=Xdz hown2
        simp only [fillAll,Act.put]
        have hok4:Ok J w4:=hok10.below (Qn _) hb4
        have hbn:bx≠w.heap.size:=by omega
        clear hC hup
        obtain ⟨J4,hx4,hok4J,hrd4,_⟩:=hown2.freeze hok4 hfr
        have HM4:=Qh ((HM10.out.ext hb4 hx4 hok4J).set0 (s':=⟨q.cks++ [⟨dg,y⟩],q.ses,q.str++x⟩) (by simpa using hrd4) rfl rfl)
        have hb11:=(hb10.trans (hb4.mono hsz10)).setCell (p:=⟨w.heap.size,0,none⟩) (Qn _) (.slice (some ⟨g2,0,none⟩) n2 cp2)
        have hkeep:=hx4.keep hok10 (Qn _)
        have Hrs4:=Qh (Hrs.out.mono hkeep)
        have Hrc4:=Qh (Hrc.out.mono hkeep)
        have Hx4:=Qh (Hx.out.trans hx4 hsz10)
        have y0:=Xh9 (j:=0) (u:= .slice (some ⟨g2,0,none⟩) n2 cp2) (Xaa hb4 z0) hbn
        have y1:=Xh9 (j:=0) (u:= .slice (some ⟨g2,0,none⟩) n2 cp2) (Xaa hb4 z1) hbn
        have y2:=Xh9 (j:=0) (u:= .slice (some ⟨g2,0,none⟩) n2 cp2) (Xaa hb4 z2) hbn
        clear hkeep hx4 hok4J hrd4 hb4 hok4 hown2 c0 f0 z0 z1 z2 hb10 HM10 Hs1 hfr hok10 Hrs Hrc Hx
        go_wp2_with fail
        refine (Xhg J4 (w.heap.size+2) _ _ y (w4.setCell ⟨w.heap.size,0,none⟩ (.slice (some ⟨g2,0,none⟩) n2 cp2)) HM4.out.own (by have:=HM4.out.lt;omega) (by omega) hxs hnb2).mono ?_
        rintro e9 w9 ⟨v9,rfl,ho9,hg9,hl9⟩
        have HM9:=Qh (HM4.out.added ho9 hg9 hl9)
        have hb9:=Below.own hb11 hg9 HM4.out.own (by omega) (by have:=HM4.out.lt;omega)
        clear ho9 hg9 hl9
        go_wp2
        go_roundw
        case rel=>exact ⟨j+1,m+1,_,_,_,J4,by omega,by go_num,Hn2.out,HB2.out,by omega,HM9.out,Hrs4.out,Hrc4.out,Hx4.out,hb9⟩
        case measure=>simp [intOf];omega
     ·have Hn2:=Qh (show (segs.drop (k+1)).foldl putG (q,l)=R by have:=Hr.out;rw [List.drop_of_length_le (by omega)] at this;have h2:=Hst2.out;rwa [←this] at h2)
      go_wp2
      go_roundw
      case rel=>exact ⟨k+1,m,q,l,_,J,by omega,by go_num,Hn2.out,HBd.out,by omega,HM.out,Hrs.out,Hx.out,hb⟩
      case measure=>simp [intOf];omega
  ·have Hq:=Qh (show (q,l)=R by have:=Hr.out;rwa [List.drop_of_length_le (by omega)] at this)
   obtain ⟨J2,hk2,hx2,hok2,hr2,_⟩:=HM.out.own.freezeA hok HM.out.apart
   have Hf:=Qh (show putP s c=(q,l,0) by rw [Hn.out,←Hq.out])
   have Hr2:=Qh hr2
   have Hrow:=Qh HM.out.res
   have Hck:=Qh (HM.out.cks.mono hk2)
   have Hxx:=Qh (Hx.out.trans hx2 (by omega))
   have hfr:J2 (w.heap.size+1)=none:=(hx2 _ (by omega)).trans HM.out.freR
   have z0:wr.cell? ⟨w.heap.size+1,0,none⟩=some (.slice none 0 0):=(cell_of_row wr _ 0 _ _ _ Hrow.out).trans rfl
   have z1:wr.cell? ⟨w.heap.size+1,1,none⟩=some (.int .i64 0):=(cell_of_row wr _ 1 _ _ _ Hrow.out).trans rfl
   have z2:wr.cell? ⟨w.heap.size+1,2,none⟩=some (S []):=(cell_of_row wr _ 2 _ _ _ Hrow.out).trans rfl
   have f0:=frozen_of_row wr _ 0 _ _ Hrow.out
   have f1:=frozen_of_row wr _ 1 _ _ Hrow.out
   have f2:=frozen_of_row wr _ 2 _ _ Hrow.out
   clear hk2 hx2 hr2 Hr
   go_wp2
   refine bodyPost_ret (v:= .tuple #[stoV q (.slice ak q.cks.length ck),u7,.int .i64 0]) ?_ rfl ?_
   ·rw [Xbi rfl]
    simp [asAddr,run_loadVar_row _ (w.heap.size+1) 91 91 #[.slice ak q.cks.length ck,.int .i64 q.ses,S q.str] (0,0) _ (Xe0 Hrow.out) Tryz.underlying91 rfl Hi3.out]
   ·rw [Hf.out]
    exact ⟨_,_,J2,rfl,((hb.setCell (by simp) _).setCell (by simp) _).setCell (by simp) _,Hxx.out,((hok2.setCell hfr _).setCell hfr _).setCell hfr _,Hck.out,Hr2.out⟩
end Go.Proofs.YtdeknddamidldaaGreatDoor
