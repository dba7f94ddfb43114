/-
  Walks and laws that the claim's theorem uses: texts EgI EgJ, joined; comments out. Conditions: as each theorem says.
-/
import Derived.Test.YtdodihnehppnmaaGreatDoorCI34
import Derived.Test.YtdodihnehppnmaaGreatDoorCI35
import Derived.Test.YtdodihnehppnmaaGreatDoorCI36
set_option linter.all false
namespace Go.Proofs.YtdodihnehppnmaaGreatDoor
open Go.RowKit
theorem Xo9 {h c:Bytes} (hc:c.length≤100000000) (hb:(decP h c).2=true):entErr (decP h c).1=0:=by
 obtain ⟨h1,h2⟩:=Xmx h c hc
 exact (h2 (h1.trans hb)).ey
structure ImR (I:IH) (w:World) (N:Nat) (J:IH) (t:List Ent) (o:List Chg) (vt vo:Value) (W:World):Prop where
 mt:MAt I w J W
 ex:Ext w.heap.size I J
 lo:w.heap.size≤N
 sz:N≤W.heap.size
 gt:Gat tEnt 26 N J W vt t
 go:Gat tChg 65 N J W vo o
 sp:Sep vt vo
section
variable {I J J':IH} {w W W':World} {N:Nat} {t t':List Ent} {o o':List Chg} {vt vo vt' vo':Value}
theorem ImR.thru (h:ImR I w N J t o vt vo W) (hb:Below W.heap.size W W'):ImR I w N J t o vt vo W':=
 ⟨h.mt.quiet hb,h.ex,h.lo,Nat.le_trans h.sz hb.size,h.gt.below hb,h.go.below hb,h.sp⟩
theorem ImR.past (h:ImR I w N J t o vt vo W) (x:Obj):ImR I w N J t o vt vo (W.alloc x):=h.thru ((Qb _ _).alloc (Qn _) x)
theorem ImR.ext (h:ImR I w N J t o vt vo W) (hb:Below W.heap.size W W') (hx:Ext W.heap.size J J') (hok:Ok J' W'):ImR I w N J' t o vt vo W':=
 ⟨h.mt.ext hb hx hok,h.ex.trans (hx.mono (by have:=h.sz;have:=h.lo;omega)) (Qn _),h.lo,Nat.le_trans h.sz hb.size,h.gt.ext hb h.mt.ok hx,h.go.ext hb h.mt.ok hx,h.sp⟩
theorem ImR.new {g:Nat} (h:ImR I w N J t o vt vo W) (hg:W.grownBy W' (some g)) (hJ:J g=none) (hgt:w.heap.size≤g) (h1:vt.ownBlock≠some g) (h2:vo.ownBlock≠some g):ImR I w N J t o vt vo W':=
 ⟨⟨h.mt.ok.grown hg (fun k q=>by injection q with q;subst q;exact hJ),h.mt.keep,h.mt.bel.grown hg h.mt.size (fun k q=>by injection q with q;omega)⟩,h.ex,h.lo,Nat.le_trans h.sz hg.size,
   h.gt.kept hg (fun k q=>by injection q with q;subst q;exact h1),h.go.kept hg (fun k q=>by injection q with q;subst q;exact h2),h.sp⟩
theorem ImR.tree (h:ImR I w N J t o vt vo W) (ho:OwnS tEnt 26 J W' N vt' t') (hg:W.grownBy W' vt.ownBlock) (hl:∀g,vt'.ownBlock=some g→vt.ownBlock=some g∨W.heap.size≤g):ImR I w N J t' o vt' vo W':=by
 have l:=h.lo
 have hlo:∀g,vt.ownBlock=some g→N≤g:=fun g hk=>(Xki h.gt.own hk).1
 exact ⟨⟨h.mt.ok.grown hg h.gt.apart,h.mt.keep,h.mt.bel.grown hg h.mt.size (fun g hk=>by have:=hlo g hk;omega)⟩,h.ex,l,Nat.le_trans h.sz hg.size,
  h.gt.added h.mt.ok ho hl,h.go.kept hg (fun g hk=>h.sp g hk),h.sp.new h.go.own hl⟩
theorem ImR.out (h:ImR I w N J t o vt vo W) (ho:OwnS tChg 65 J W' N vo' o') (hg:W.grownBy W' vo.ownBlock) (hl:∀g,vo'.ownBlock=some g→vo.ownBlock=some g∨W.heap.size≤g):ImR I w N J t o' vt vo' W':=by
 have l:=h.lo
 have hlo:∀g,vo.ownBlock=some g→N≤g:=fun g hk=>(Xki h.go.own hk).1
 exact ⟨⟨h.mt.ok.grown hg h.go.apart,h.mt.keep,h.mt.bel.grown hg h.mt.size (fun g hk=>by have:=hlo g hk;omega)⟩,h.ex,l,Nat.le_trans h.sz hg.size,
  h.gt.kept hg (fun g hk=>h.sp.symm g hk),h.go.added h.mt.ok ho hl,(h.sp.symm.new h.gt.own hl).symm⟩
theorem ImR.start (hw:Ok I w) (hb:Below w.heap.size w W):ImR I w W.heap.size I [] [] (.slice (some ⟨W.heap.size+1,0,none⟩) 0 0) (.slice (some ⟨W.heap.size,0,none⟩) 0 0) ((W.alloc (.cells #[] 65)).alloc (.cells #[] 26)):=by
 have hsz:=hb.size
 have ho:=(Xqg (T:=tChg) (E:=65) (I:=I) W).alloc (.cells #[] 26)
 have ht:=Xqg (T:=tEnt) (E:=26) (I:=I) (W.alloc (.cells #[] 65))
 rw [World.size_alloc] at ht
 have hm:=(((MAt.start hw).quiet (hb.mono (Qn _))).past (.cells #[] 65)).past (.cells #[] 26)
 refine ⟨hm,Ext.refl _ _,hsz,by simp;omega,⟨ht.lower (by omega),fun g hg=> ?_⟩,⟨ho,fun g hg=> ?_⟩,fun g hg=> ?_⟩
 ·simp [Value.ownBlock] at hg
  exact hw.fresh (by omega)
 ·simp [Value.ownBlock] at hg
  exact hw.fresh (by omega)
 ·simp [Value.ownBlock] at hg ⊢
  omega
end
theorem Xeu {α:Type} {T:Ty α} {J:IH} (ao:Option Addr):RdS T J (.slice ao 0 0) []:=⟨ao,0,rfl,Qn _,Nat.zero_le _,fun h=>absurd h (Nat.lt_irrefl _)⟩
set_option maxRecDepth 100000 in
set_option maxHeartbeats 4000000 in
theorem Xot (I:IH) (s:Bytes) (hs:s.length≤100000000) (w:World) (hw:Ok I w):
 Calls Tryz.prog 20 #[S s] w (RetL tChg I w (impL (impP decP s)).1 (impL (impP decP s)).2):=by
 have Hrn:=Qh (fun w=>Xdx s (by omega) 0 (by omega) w)
 obtain ⟨R,hR⟩:∃R,impP decP s=R:=⟨_,rfl⟩
 rw [hR]
 unfold impP at hR
 have hi7:(Tryz.prog.info? 26).map (·.size)=some 7:=by kernel_rfl
 have M0:=Qh (MAt.start hw)
 cases h1:rdNum s 0 with
 |error z=>
  have hz:=Xbc h1
  rw [h1,Rb_err] at hR
  have HR:=Qh hR
  rw [h1,Xst] at Hrn
  clear hR h1
  go_enter Tryz.func20,Tryz.ntmps20
  go_wp2_with fail
  refine (Hrn.out _).mono ?_
  rintro e w1 ⟨rfl,hb1⟩
  have M1:=Qh (M0.out.quiet hb1)
  go_wp2
  go_ret2
  rw [←HR.out]
  exact ⟨_,I,rfl,(M1.out.past _).bel,Ext.refl _ _,(M1.out.past _).ok,Xeu _⟩
 |ok p=>
  obtain ⟨n,a⟩:=p
  have hne:=Xbb h1
  rw [h1,Rb_ok] at hR
  have HR:=Qh hR
  rw [h1,Xsu] at Hrn
  clear hR h1
  by_cases hn:n<0∨5000<n
  ·have HR2:=Qh (show Except.error 2=R by rw [←HR.out,impN,if_pos hn])
   have hcase:decide (n<0)=true∨(decide (n<0)=false∧decide (5000<n)=true):=by
    by_cases h0:n<0
    ·exact .inl (Qt h0)
    ·exact .inr ⟨Qf h0,Qt (by omega)⟩
   clear hn
   rcases hcase with d1|⟨d1,d2⟩
   all_goals
    go_enter Tryz.func20,Tryz.ntmps20
    go_wp2_with fail
    refine (Hrn.out _).mono ?_
    rintro e w1 ⟨rfl,hb1⟩
    have M1:=Qh (M0.out.quiet hb1)
    go_wp2
    go_ret2
    rw [←HR2.out]
    exact ⟨_,I,rfl,(M1.out.past _).bel,Ext.refl _ _,(M1.out.past _).ok,Xeu _⟩
  ·have d1:decide (n<0)=false:=Qf (by omega)
   have d2:decide (5000<n)=false:=Qf (by omega)
   obtain ⟨m,rfl⟩:∃m:Nat,n=(m:Int):=⟨n.toNat,by omega⟩
   have hm:m≤5000:=by omega
   obtain ⟨G,hG⟩:∃G,impG decP s m a [] []=G:=⟨_,rfl⟩
   have HG:=Qh hG
   have HR2:=Qh (show Rb G (impE s)=R by rw [←HR.out,impN,if_neg hn,Int.toNat_natCast,hG])
   clear hn hG HR
   go_enter Tryz.func20,Tryz.ntmps20
   go_wp2_with fail
   refine (Hrn.out _).mono ?_
   rintro e w1 ⟨rfl,hb1⟩
   have M3:=Qh (ImR.start hw hb1)
   clear Hrn hb1 M0
   go_wp2_with fail
   go_loopw [5,7,8,9,10,11,12,13,14,15,16] (fun s5 s7 s8 s9 _ _ _ _ _ _ _ wr=> ∃(k a:Nat) (t:List Ent) (o:List Chg) (J:IH),k≤m∧s9= .int .i64 k∧s5= .int .i64 (a:Int)∧ImR I w w1.heap.size J t o s8 s7 wr∧a≤s.length∧(∀x∈t,entErr x=0)∧t.length=k∧o.length=k∧impG decP s (m-k) a t o=G) (fun _ _ _ i _ _ _ _ _ _ _ _=>m-(intOf i).toNat)
   case atStart=>exact ⟨0,a,[],[],I,Nat.zero_le _,rfl,rfl,M3.out,hne.2.1,fun x hx=>(by cases hx),rfl,rfl,HG.out⟩
   case round=>
    clear M3 HG
    obtain ⟨k,a2,t,o,J,hk,rfl,rfl,hM,ha2,hval,htl,hol,hr⟩:=hrel
    have M:=Qh hM
    have Hr:=Qh hr
    have Hval:=Qh hval
    have Htl:=Qh htl
    have Hol:=Qh hol
    clear hM hr hval htl hol
    obtain ⟨ta,tc,rfl⟩:=M.out.gt.own.shape
    obtain ⟨oa,oc,rfl⟩:=M.out.go.own.shape
    by_cases hlt:k<m
    ·rw [show m-k=m-(k+1)+1 by omega,impG] at Hr
     have H1:=Qh (fun w=>Xca s (by omega) a2 (by omega) w)
     cases h1:rdStr s a2 with
     |error z=>
      have hz:=Xax h1
      rw [h1,Rb_err] at Hr
      rw [h1,Xl5] at H1
      clear h1
      go_wp2_with fail
      refine (H1.out _).mono ?_
      rintro e W1 ⟨rfl,hb1⟩
      have M1:=Qh (M.out.thru hb1)
      go_wp2
      go_ret2
      rw [←HR2.out,←Hr.out,Rb_err]
      exact ⟨_,I,rfl,(M1.out.mt.past _).bel,Ext.refl _ _,(M1.out.mt.past _).ok0,Xeu _⟩
     |ok p=>
     obtain ⟨hh,a3⟩:=p
     have ha3:=(Xav h1).2
     rw [h1,Rb_ok] at Hr
     rw [h1,Xl6] at H1
     clear h1
     go_wp2_with fail
     refine (H1.out _).mono ?_
     rintro e W1 ⟨rfl,hb1⟩
     have M1:=Qh (M.out.thru hb1)
     clear M hb1 H1
     have H2:=Qh (fun w=>Xca s (by omega) a3 (by omega) w)
     cases h2:rdStr s a3 with
     |error z=>
      have hz:=Xax h2
      rw [h2,Rb_err] at Hr
      rw [h2,Xl5] at H2
      clear h2
      go_wp2_with fail
      refine (H2.out _).mono ?_
      rintro e W2 ⟨rfl,hb2⟩
      have M2:=Qh (M1.out.thru hb2)
      go_wp2
      go_ret2
      rw [←HR2.out,←Hr.out,Rb_err]
      exact ⟨_,I,rfl,(M2.out.mt.past _).bel,Ext.refl _ _,(M2.out.mt.past _).ok0,Xeu _⟩
     |ok p=>
     obtain ⟨ct,a4⟩:=p
     have ha4:=(Xav h2).2
     rw [h2,Rb_ok] at Hr
     rw [h2,Xl6] at H2
     clear h2
     go_wp2_with fail
     refine (H2.out _).mono ?_
     rintro e W2 ⟨rfl,hb2⟩
     have M2:=Qh (M1.out.thru hb2)
     clear M1 hb2 H2
     try dsimp only at Hr
     have Hev:=Qh (Xo9 (h:=hh) (c:=ct) (by omega))
     have Hent:=Qh (Xos J hh ct (by omega) (by omega) W2 M2.out.mt.ok)
     generalize decP hh ct=q at Hr Hev Hent
     obtain ⟨x,fl⟩:=q
     dsimp only at Hr Hev
     go_wp2_with fail
     refine Hent.out.mono ?_
     rintro e W3 ⟨va,vx,J3,rfl,hva,hvx,hx3,hok3,hb3⟩
     dsimp only at hva hvx
     obtain ⟨xa,xc,rfl,_,_,_⟩:=id hva
     obtain ⟨xx,xd,rfl,_,_,_⟩:=id hvx
     have M3:=Qh (M2.out.ext hb3 hx3 hok3)
     have M4:=Qh (M3.out.past (.cells zeroRow 26))
     have hJn:=hok3.fresh (Qn _)
     have hgt3:=Nat.le_trans M3.out.lo M3.out.sz
     have H4:=Qh (heap_alloc_new W3 (.cells zeroRow 26))
     have HT:=Qh (M3.out.gt.own.ne_ge (Qn _))
     have HO:=Qh (M3.out.go.own.ne_ge (Qn _))
     have HA:=Qh hva
     have HX:=Qh hvx
     clear hva hvx hx3 hok3 hb3 M2 M3 Hent
     cases fl with
     |false=>
      rw [if_pos rfl] at Hr
      go_wp2_with (refine Xab rfl rfl 26 _ _ rfl W3.heap.size 0 (entRow x (.slice xa x.attrs.length xc) (.slice xx x.exts.length xd)).toList (entV x (.slice xa x.attrs.length xc) (.slice xx x.exts.length xd)) (by simp [Act.eval,Act.put]) (by simp [Act.eval,Act.put]) (by rfl) zeroRow 26 H4.out (by simp) hi7 (by simp [Value.oneCell']) (entRow x (.slice xa x.attrs.length xc) (.slice xx x.exts.length xd)) (by rfl) ?_
                   intro W5 hg5 hr5
                   have M5:=Qh (M4.out.new hg5 hJn hgt3 HT.out HO.out))
      go_wp2
      go_ret2
      rw [←HR2.out,←Hr.out,Rb_err]
      exact ⟨_,I,rfl,(M5.out.mt.past _).bel,Ext.refl _ _,(M5.out.mt.past _).ok0,Xeu _⟩
     |true=>
      rw [if_neg (by simp)] at Hr
      have hex:=Hev.out rfl
      have Hex:=Qh hex
      clear hex Hev
      go_wp2_with (first
                   |(refine Xab rfl rfl 26 _ _ rfl W3.heap.size 0 (entRow x (.slice xa x.attrs.length xc) (.slice xx x.exts.length xd)).toList (entV x (.slice xa x.attrs.length xc) (.slice xx x.exts.length xd)) (by simp [Act.eval,Act.put]) (by simp [Act.eval,Act.put]) (by rfl) zeroRow 26 H4.out (by simp) hi7 (by simp [Value.oneCell']) (entRow x (.slice xa x.attrs.length xc) (.slice xx x.exts.length xd)) (by rfl) ?_
                     intro W5 hg5 hr5
                     have M5:=Qh (M4.out.new hg5 hJn hgt3 HT.out HO.out)
                     have R5:=Qh hr5)
                   |(refine wpList_load_row rfl 26 _ rfl W3.heap.size rfl 26 _ (0,0) _ R5.out Tryz.underlying26 rfl hi7 ?_)
                   |(at_builtin
                     refine Xbo (w0:=W5) Xn9 rfl _ _ rfl w1.heap.size _ _ rfl M5.out.gt.own x (entCs x (.slice xa x.attrs.length xc) (.slice xx x.exts.length xd)) _ (by first|rfl|simp [Act.eval]) ⟨_,_,rfl,HA.out,HX.out⟩ (by rw [Htl.out];omega) (by rw [Htl.out];omega) M5.out.sz ?_
                     intro v6 W6 ho6 hg6 hl6
                     have M6:=Qh (M5.out.tree ho6 hg6 hl6)
                     have R6:=Qh (Xac R5.out hg6 (fun q=>HT.out q))
                     obtain ⟨y0,y1,y2,y3,y4,y5,y6⟩:=ent_row R6.out)
                   |(at_builtin
                     refine Xbo (w0:=W6) Xof rfl _ _ rfl w1.heap.size _ _ rfl M6.out.go.own (chgOf x ct) [.int .i64 x.kind,S x.path,.slice xa x.attrs.length xc,S x.target,S ct] _ (by first|rfl|simp [Act.eval]) ⟨_,rfl,HA.out⟩ (by rw [Hol.out];omega) (by rw [Hol.out];omega) M6.out.sz ?_
                     intro v7 W7 ho7 hg7 hl7
                     have M7:=Qh (M6.out.out ho7 hg7 hl7)))
      go_roundw
      case rel=>exact ⟨k+1,a4,t++ [x],o++ [chgOf x ct],J3,by omega,by go_num,rfl,M7.out,ha4.1,fun y hy=>(by
       rcases List.mem_append.1 hy with hy|hy
       ·exact Hval.out y hy
       ·rw [List.mem_singleton.1 hy];exact Hex.out),by rw [List.length_append,Htl.out];rfl,by rw [List.length_append,Hol.out];rfl,Hr.out⟩
      case measure=>simp [intOf];omega
    ·have hke:m-k=0:=by omega
     rw [hke,impG] at Hr
     have HR3:=Qh (show impE s (t,o,a2)=R by rw [←HR2.out,←Hr.out,Rb_ok])
     clear Hr hke
     by_cases hend:a2=s.length
     ·have k1:((a2:Int) != (s.length:Int))=false:=by rw [hend];simp
      have HR4:=Qh (show (if chkT t≠0 then Except.error (chkT t) else Except.ok o)=R by rw [←HR3.out];unfold impE;dsimp only;rw [if_neg (c:=a2≠s.length) (by omega)])
      clear HR3 hend
      obtain ⟨J2,hk2,hx2,hok2,hr2,hj2⟩:=M.out.gt.own.freezeG M.out.mt.ok M.out.gt.apart
      obtain ⟨J3,hk3,hx3,hok3,hr3,_⟩:=(M.out.go.own.mono hk2).freezeG hok2 (fun g hg=>(hj2 g (fun q=>M.out.sp g q hg)).trans (M.out.go.apart g hg))
      have Hck:=Qh (fun w hw=>Xmc J2 _ t hr2 (Xh4 Hval.out).1 w hw)
      rw [Xtl (fun x hx=>by have:=Xu5 (Hval.out x hx);omega)] at Hck
      have HO3:=Qh hr3
      have HK:=Qh hok2
      have HK3:=Qh hok3
      have hlo:=M.out.lo
      have HX3:=Qh (show Ext w.heap.size I J3 from M.out.ex.trans ((hx2.trans hx3 (Qn _)).mono (by omega)) (Qn _))
      have HB:=Qh M.out.mt.bel
      clear hk2 hx2 hok2 hr2 hj2 hk3 hx3 hok3 hr3 hlo
      go_wp2_with fail
      refine (Hck.out _ HK.out).mono ?_
      rintro e W8 ⟨rfl,hb8⟩
      have HB8:=Qh (HB.out.trans (hb8.mono HB.out.size))
      have HK8:=Qh (HK3.out.below (Qn _) hb8)
      clear hb8 HB HK3
      obtain ⟨cz,hcz⟩:∃cz,chkT t=cz:=⟨_,rfl⟩
      rw [hcz] at HR4 ⊢
      clear hcz
      by_cases hz:cz=0
      ·subst hz
       rw [if_neg (by simp)] at HR4
       go_wp2
       go_ret2
       rw [←HR4.out]
       exact ⟨_,J3,rfl,HB8.out,HX3.out,HK8.out,HO3.out⟩
      ·have k2:(cz != 0)=true:=by simpa using hz
       rw [if_pos hz] at HR4
       clear hz
       go_wp2
       go_ret2
       rw [←HR4.out]
       exact ⟨_,J3,rfl,HB8.out.alloc HB8.out.size _,HX3.out,HK8.out.alloc _,Xeu _⟩
     ·have k1:((a2:Int) != (s.length:Int))=true:=by
       have:(a2:Int)≠(s.length:Int):=by omega
       simpa using this
      have HR4:=Qh (show Except.error 3=R by rw [←HR3.out];unfold impE;dsimp only;rw [if_pos (c:=a2≠s.length) (by omega)])
      clear HR3 hend
      go_wp2
      go_ret2
      rw [←HR4.out]
      exact ⟨_,I,rfl,(M.out.mt.past _).bel,Ext.refl _ _,(M.out.mt.past _).ok0,Xeu _⟩
def dirA:Ent:=⟨2,[97],[],[],0,[],[]⟩
def awS:Ses:=⟨1,0,[],[dirA],[],[]⟩
def awT:Bytes:= [49,32,49,53,58,51,58,100,105,114,44,49,58,97,44,48,32,48,58,44,44,48,58,44]
theorem Xrx:expT [awS] 0=(awT,0):=by decide +kernel
theorem Xrw:treeAt [awS] 0= [dirA]:=by decide +kernel
theorem Xwq:impP entOf awT= .ok [⟨2,[97],[],[],[]⟩]:=by
 have h:=Xs3 (st:=strmsP [awS]) (t:=treeAt [awS] 0) (Xpk _) (by rw [Xrw];decide) (by have:=Xrx;unfold expT at this;rw [this])
 have e:(trP (strmsP [awS]) (treeAt [awS] 0)).1=awT:=by have:=Xrx;unfold expT at this;rw [this]
 rw [e,Xrw] at h
 rw [h]
 rfl
theorem Xwp:∀x∈ [awS],SesG x:=fun x hx=>by
 rw [List.mem_singleton.1 hx]
 refine ⟨by decide,by decide,by decide,by decide,?_,?_,?_,?_,by decide,by decide⟩
 all_goals
  intro e he
  rw [List.mem_singleton.1 (show e∈ [dirA] from he)]
 ·exact ⟨by decide,by decide,by decide,fun x hx=>(by cases hx),by decide,by decide,by decide,by decide,fun x hx=>(by cases hx)⟩
 all_goals decide
set_option maxRecDepth 100000 in
set_option maxHeartbeats 1000000 in
theorem Xhk (I:IH) (hI:Glob I) (w:World) (hw:Ok I w):
 Calls Tryz.prog 13 #[] w fun e w'=>e= .returned (.bool true)∧Below w.heap.size w w':=by
 have A0:=(MAt.start hw).past (.cells (entCs dirA (.slice none 0 0) (.slice none 0 0)).toArray 26)
 obtain ⟨K,hk,_,hok,hkn,hrE⟩:=one_row (T:=tEnt) (x:=dirA) (cs:=entCs dirA (.slice none 0 0) (.slice none 0 0)) A0.ok (heap_alloc_new w _) (hw.fresh (Qn _)) ⟨_,_,rfl,RdS.nil _ _,RdS.nil _ _⟩
 have A1:MAt I w K _:=⟨hok,hk,A0.bel⟩
 have A2:=A1.past (.cells (sesCs awS (.slice (some ⟨w.heap.size,0,none⟩) 1 1)).toArray 35)
 obtain ⟨J,hj,_,hokJ,_,hrS⟩:=one_row (T:=tSes) (x:=awS) (cs:=sesCs awS (.slice (some ⟨w.heap.size,0,none⟩) 1 1)) A2.ok (heap_alloc_new _ _) (hok.fresh (Qn _)) ⟨_,rfl,hrE⟩
 have A3:=Qh (show MAt I w J _ from ⟨hokJ,fun b c h=>hj b c (hk b c h),A2.bel⟩)
 rw [show (w.alloc (.cells (entCs dirA (.slice none 0 0) (.slice none 0 0)).toArray 26)).heap.size=w.heap.size+1 by simp] at hrS
 have Htr:=Qh (fun w hw=>Xu6 J (hI.mono fun b c h=>hj b c (hk b c h)) _ [awS] hrS Xwp (by decide) 0 w hw)
 rw [Xrx] at Htr
 have Him:=Qh (fun w hw=>Xlb J (hI.mono fun b c h=>hj b c (hk b c h)) awT (by decide) w hw)
 rw [Xwq] at Him
 clear A0 A1 A2 hk hok hkn hrE hj hokJ hrS
 go_enter Tryz.func13,Tryz.ntmps13
 go_wp2_with fail
 refine (Htr.out _ A3.out.ok).mono ?_
 rintro e w1 ⟨rfl,hb1⟩
 have A4:=Qh (A3.out.quiet hb1)
 clear hb1 A3
 go_wp2_with fail
 refine (Him.out _ A4.out.ok).mono ?_
 rintro e w2 ⟨v2,J2,rfl,hb2,hx2,hok2,hr2⟩
 have hr2:RdS tChg J2 v2 [⟨2,[97],[],[],[]⟩]:=hr2
 obtain ⟨x,va,b,off,cap,hlx,hvv,⟨c0,c1,c2,c3,c4⟩,h1⟩:=Xv2 hr2 hok2 0 (by decide)
 have hx:x=⟨2,[97],[],[],[]⟩:=hlx.symm
 subst hx
 cases hvv
 have A5:=Qh (A4.out.bel.trans (hb2.mono A4.out.bel.size))
 clear hr2 hb2 hx2 hok2 hlx h1 A4
 go_wp2
 go_ret
 exact ⟨rfl,A5.out⟩
end Go.Proofs.YtdodihnehppnmaaGreatDoor
