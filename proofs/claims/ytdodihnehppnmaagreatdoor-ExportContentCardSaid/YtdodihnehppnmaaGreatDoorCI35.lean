/-
  Walks and laws that the claim's theorem uses: texts EgF, joined; comments out. Conditions: as each theorem says.
-/
import Derived.Test.YtdodihnehppnmaaGreatDoorCI22
set_option linter.all false
namespace Go.Proofs.YtdodihnehppnmaaGreatDoor
open Go.RowKit
abbrev faL (E:Value) (g:Nat) (c:Bytes) (z k:Int) (bk:Bool) (x:Unit):List (Option Tmp × Value):=
 [(some 69,E),(some 70,.int .i64 z),(some 71,.bool false),(some 72,.bool false),(some 73,undef),(some 74,undef),(some 75,undef),(some 76,undef),(some 77,undef),(some 78,undef),(some 79,undef),(some 80,undef),(some 81,undef),(some 82,undef),(some 83,undef),(some 84,undef),(some 85,undef),(some 86,.bool false),(none,undef),(some 5,.bool false)]
theorem Xa0 {E:Value} {g:Nat} {c:Bytes} {z k:Int} {bk:Bool} {x:Unit}:ApartF (faL E g c z k bk x):=by
 unfold ApartF
 simp
abbrev fbL (E:Value) (g:Nat) (c:Bytes) (z k:Int) (bk:Bool) (x:Unit):List (Option Tmp × Value):=
 [(some 69,E),(some 70,.int .i64 z),(some 71,.bool true),(some 72,.bool true),(some 73,.pointer (some ⟨g,0,none⟩)),(some 74,.int .i64 k),(some 75,.bool true),(some 76,.bool true),(some 77,undef),(some 78,undef),(some 79,undef),(some 80,.bool true),(some 81,.bool true),(some 82,undef),(some 83,undef),(some 84,undef),(some 85,.bool true),(some 86,.bool true),(none,undef),(some 5,.bool true)]
theorem Xbn {E:Value} {g:Nat} {c:Bytes} {z k:Int} {bk:Bool} {x:Unit}:ApartF (fbL E g c z k bk x):=by
 unfold ApartF
 simp
abbrev fcL (E:Value) (g:Nat) (c:Bytes) (z k:Int) (bk:Bool) (x:Unit):List (Option Tmp × Value):=
 [(some 69,E),(some 70,.int .i64 z),(some 71,.bool true),(some 72,.bool true),(some 73,.pointer (some ⟨g,0,none⟩)),(some 74,.int .i64 k),(some 75,.bool false),(some 76,.bool false),(some 77,.pointer (some ⟨g,0,none⟩)),(some 78,.int .i64 k),(some 79,.bool true),(some 80,.bool true),(some 81,.bool true),(some 82,undef),(some 83,undef),(some 84,undef),(some 85,.bool true),(some 86,.bool true),(none,undef),(some 5,.bool true)]
theorem Xcl {E:Value} {g:Nat} {c:Bytes} {z k:Int} {bk:Bool} {x:Unit}:ApartF (fcL E g c z k bk x):=by
 unfold ApartF
 simp
abbrev fdL (E:Value) (g:Nat) (c:Bytes) (z k:Int) (bk:Bool) (x:Unit):List (Option Tmp × Value):=
 [(some 69,E),(some 70,.int .i64 z),(some 71,.bool true),(some 72,.bool true),(some 73,.pointer (some ⟨g,0,none⟩)),(some 74,.int .i64 k),(some 75,.bool false),(some 76,.bool false),(some 77,.pointer (some ⟨g,0,none⟩)),(some 78,.int .i64 k),(some 79,.bool false),(some 80,.bool false),(some 81,.bool false),(some 82,.pointer (some ⟨g,0,none⟩)),(some 83,.int .i64 k),(some 84,.bool bk),(some 85,.bool bk),(some 86,.bool bk),(none,undef),(some 5,.bool bk)]
theorem Xfh {E:Value} {g:Nat} {c:Bytes} {z k:Int} {bk:Bool} {x:Unit}:ApartF (fdL E g c z k bk x):=by
 unfold ApartF
 simp
def decQ (r:Rd Ent):Ent × Bool:=match r with| .ok p=>(p.1,p.1.kind==1 || p.1.kind==2 || p.1.kind==3)| .error _=>(zE,false)
def decT (h c:Bytes):Bytes:=if isFile h=true then fileT 1 h c else noneT h
theorem Xwm (h c:Bytes):decP h c=if isFile h=false∧c≠ [] then (zE,false) else decQ (rdEnt (decT h c) 0):=by
 unfold decP decQ decT
 split
 ·rfl
 ·cases rdEnt (if isFile h=true then fileT 1 h c else noneT h) 0<;>rfl
set_option maxRecDepth 100000 in
set_option maxHeartbeats 4000000 in
theorem Xos (I:IH) (h c:Bytes) (hh:h.length≤100000000) (hc:c.length≤100000000) (w:World) (hw:Ok I w):
 Calls Tryz.prog 57 #[S h,S c] w (RetEn I w (decP h c)):=by
 have Hn0:=Qh (fun w=>(show Calls Tryz.prog 47 #[.int .i64 0] w (fun e w'=>e= .returned (S (numP 0))∧Below w.heap.size w w') from Xd4 0 (by decide) w))
 have Hn1:=Qh (fun w=>(show Calls Tryz.prog 47 #[.int .i64 1] w (fun e w'=>e= .returned (S (numP 1))∧Below w.heap.size w w') from Xd4 1 (by decide) w))
 have Hs1:=Qh (fun w=>Xd3 h (by omega) w)
 have Hs0:=Qh (fun w=>(show Calls Tryz.prog 49 #[.string ⟨#[]⟩] w (fun e w'=>e= .returned (S (netP []))∧Below w.heap.size w w') from Xd3 [] (by decide) w))
 have Hnc:=Qh (fun w=>Xd4 c.length (by omega) w)
 have Hsu:=Qh (fun b w hc'=>Xif b 0 1 c (by omega) w hc')
 have h32:=Xwc c
 have Hsd:=Qh (fun w=>Xd3 (sumP c) (by omega) w)
 have l1:=Xa6 h hh
 have l0:(numP 0).length≤17:=Xcc 0 (by decide)
 have l11:(numP 1).length≤17:=Xcc 1 (by decide)
 have le:=Xa6 [] (by decide)
 have lc:=Xcc c.length (by omega)
 have ld:=Xa6 (sumP c) (by omega)
 have hi7:(Tryz.prog.info? 26).map (·.size)=some 7:=by kernel_rfl
 have HN:=Qh (show ((netP h++numP 0)++netP [])++numP 0=noneT h by simp [noneT,entT,xtP])
 have HF:=Qh (show ((netP h++numP c.length)++netP (sumP c))++(if c= [] then numP 0 else ((numP 1++numP 1)++numP 0)++numP c.length)=fileT 1 h c by
  by_cases hc0:c= []
  ·simp [fileT,fileX,entT,xtP,hc0]
  ·simp [fileT,fileX,entT,xtP,hc0])
 have htl:(decT h c).length≤4294967280:=by
  unfold decT
  split
  ·rw [←HF.out,List.length_append,List.length_append,List.length_append]
   split
   ·omega
   ·rw [List.length_append,List.length_append,List.length_append];omega
  ·rw [←HN.out,List.length_append,List.length_append,List.length_append]
   simp only [List.length_nil] at le
   omega
 have Hd:=Qh (fun w hw=>Xj4 I (decT h c) htl w hw)
 obtain ⟨P,hP⟩:∃P,decP h c=P:=⟨_,rfl⟩
 rw [hP]
 rw [Xwm] at hP
 have Hdt:=Qh (show (isFile h=true→decT h c=fileT 1 h c)∧(isFile h=false→decT h c=noneT h) from ⟨fun q=>by unfold decT;rw [if_pos q],fun q=>by unfold decT;rw [if_neg (by rw [q];simp)]⟩)
 generalize decT h c=tt at*
 generalize noneT h=tn at*
 generalize fileT 1 h c=tf at*
 have Hb:=Qh (fun z=>Xg9 (s:=tt) (z:=z))
 generalize rdEnt tt 0=R at hP Hd Hb
 have HP1:=Qh hP
 clear hP htl
 generalize netP h=p1 at*
 generalize numP 0=p0 at*
 generalize numP 1=p11 at*
 generalize netP []=pe at*
 generalize numP (c.length:Int)=pc at*
 generalize netP (sumP c)=pd at*
 generalize sumP c=dg at*
 simp only [List.length_nil] at le
 have d1:¬9223372036854775807<p1.length+p0.length:=by omega
 have d2:¬9223372036854775807<(p1++p0).length+pe.length:=by rw [List.length_append];omega
 have d3:¬9223372036854775807<(p1++p0++pe).length+p0.length:=by rw [List.length_append,List.length_append];omega
 obtain ⟨v1,hv1⟩:∃v,p1++p0=v:=⟨_,rfl⟩
 rw [hv1] at d2 d3 HN
 obtain ⟨v2,hv2⟩:∃v,v1++pe=v:=⟨_,rfl⟩
 rw [hv2] at d3 HN
 have f1:¬9223372036854775807<p1.length+pc.length:=by omega
 have f2:¬9223372036854775807<(p1++pc).length+pd.length:=by rw [List.length_append];omega
 have f3:(p1++pc++pd).length≤100000200:=by rw [List.length_append,List.length_append];omega
 obtain ⟨u1,hu1⟩:∃v,p1++pc=v:=⟨_,rfl⟩
 rw [hu1] at f2 f3 HF
 obtain ⟨u2,hu2⟩:∃v,u1++pd=v:=⟨_,rfl⟩
 rw [hu2] at f3 HF
 have M0:=Qh (EoM.start hw)
 obtain ⟨fl,hfl⟩:∃fl,isFile h=fl:=⟨_,rfl⟩
 have Hfl:=Qh hfl
 rw [hfl] at HP1 Hdt
 clear hfl
 go_enter Tryz.func57,Tryz.ntmps57
 go_upto_region 1 with fail
 go_cut [6] (fun s6 wx=>s6= .bool fl∧EoM I w I wx)
 case first=>
  by_cases hl:7≤h.length
  ·have e1:decide ((7:Int)≤(h.length:Int))=true:=Qt (by omega)
   have Hq:=Qh (show (h.take 7== [52,58,102,105,108,101,44])=fl by rw [←Hfl.out,isFile,Qt hl];rfl)
   have e2:(7:Int)≤(h.length:Int):=by omega
   go_wp2_with fail
   go_meet
   case rel=>exact ⟨by rw [←Hq.out],M0.out⟩
  ·have e1:decide ((7:Int)≤(h.length:Int))=false:=Qf (by omega)
   have Hq:=Qh (show false=fl by rw [←Hfl.out,isFile,Qf hl];rfl)
   clear hl
   go_wp2_with fail
   go_meet
   case rel=>exact ⟨by rw [←Hq.out],M0.out⟩
 case rest=>
  obtain ⟨rfl,hM⟩:=hcut
  have M1:=Qh hM
  clear hM M0 Hfl
  obtain ⟨g,hg⟩:∃g,(!fl&& !c.isEmpty)=g:=⟨_,rfl⟩
  have Hg:=Qh hg
  clear hg
  go_upto_region 2 with fail
  go_cut [24] (fun s24 wx=>s24= .bool g∧EoM I w I wx)
  case first=>
   cases fl with
   |true=>
    go_wp2_with fail
    go_meet
    case rel=>exact ⟨by rw [←Hg.out];rfl,M1.out⟩
   |false=>
    go_wp2_with fail
    go_meet
    case rel=>exact ⟨by rw [←Hg.out];rfl,M1.out⟩
  case rest=>
  obtain ⟨rfl,hM⟩:=hcut
  replace M1:=Qh hM
  clear hM
  go_upto_if 24 with fail
  go_cut [5] (fun s5 wx=>s5= .bool false∧(fl=false→c= [])∧EoM I w I wx)
  case first=>
   cases g with
   |false=>
    have Hcc:=Qh (show fl=false→c= [] by
     intro q
     have:=Hg.out
     rw [q] at this
     simpa using this)
    go_wp2_with fail
    go_meet
    case rel=>exact ⟨by first|rfl|trivial,Hcc.out,M1.out⟩
   |true=>
    have HP:=Qh (show P=(zE,false) by
     have:=Hg.out
     rw [Bool.and_eq_true] at this
     rw [←HP1.out,if_pos ⟨by simpa using this.1,by simpa using this.2⟩])
    go_wp2_with (refine Xab rfl rfl 26 _ _ rfl w.heap.size 0 zeroRow.toList (.agg zeroRow) (by simp [Act.eval,Act.put]) (by simp [Act.eval,Act.put]) (by rfl) zeroRow 26 M1.out.res (by simp) hi7 (by simp [Value.oneCell']) zeroRow (by rfl) ?_
                 intro w7 hg7 hr7)
    go_wp2
    refine bodyPost_ret (Xau rfl _ _ _ rfl hr7 rfl Tryz.underlying26 hi7) rfl ?_
    rw [HP.out]
    exact ⟨.slice none 0 0,.slice none 0 0,I,rfl,RdS.nil _ _,RdS.nil _ _,Ext.refl _ _,M1.out.mt.ok.grown hg7 (fun g q=>by injection q with q;subst q;exact M1.out.fr),M1.out.mt.bel.grown hg7 M1.out.mt.size (fun g q=>by injection q with q;omega)⟩
  case rest=>
   obtain ⟨rfl,hcn,hM⟩:=hcut
   have M2:=Qh hM
   have Hcn:=Qh hcn
   have HP2:=Qh (show P=decQ R by rw [←HP1.out,if_neg (fun q=>q.2 (hcn q.1))])
   clear hM M1 hcn HP1 Hg
   go_wp2_with fail
   refine (Hs1.out _).mono ?_
   rintro e3 w3 ⟨rfl,hb3⟩
   have M3:=Qh (M2.out.thru hb3)
   clear hb3 M2
   go_upto_if 29 with fail
   go_cut [7] (fun s7 wx=>s7=S tt∧EoM I w I wx)
   case first=>
    cases fl with
    |false=>
     have hfx:=Qh (show v2++p0=tt by rw [HN.out,Hdt.out.2 rfl])
     go_wp2_with fail
     refine (Hn0.out _).mono ?_
     rintro e4 w4 ⟨rfl,hb4⟩
     have M4:=Qh (M3.out.thru hb4)
     clear hb4 M3
     go_wp2_with fail
     refine (Hs0.out _).mono ?_
     rintro e5 w5 ⟨rfl,hb5⟩
     have M5:=Qh (M4.out.thru hb5)
     clear hb5 M4
     go_wp2_with fail
     refine (Hn0.out _).mono ?_
     rintro e6 w6 ⟨rfl,hb6⟩
     have M6:=Qh (M5.out.thru hb6)
     clear hb6 M5
     go_wp2_with fail
     go_meet
     case rel=>exact ⟨by rw [←hfx.out],M6.out⟩
    |true=>
     have Htf:=Qh (Hdt.out.1 rfl)
     go_wp2_with fail
     refine (Hnc.out _).mono ?_
     rintro e4 w4 ⟨rfl,hb4⟩
     have M4:=Qh (M3.out.thru hb4)
     clear hb4 M3
     go_wp2_with fail
     refine (Hsu.out w4.heap.size (w4.alloc (.cells #[S c] 9)) (by rw [World.cell?_alloc_new];rfl)).mono ?_
     rintro e5 w5 ⟨rfl,hb5⟩
     have M5:=Qh ((M4.out.past (.cells #[S c] 9)).thru hb5)
     clear hb5 M4
     go_wp2_with fail
     refine (Hsd.out _).mono ?_
     rintro e6 w6 ⟨rfl,hb6⟩
     have M6:=Qh (M5.out.thru hb6)
     clear hb6 M5
     obtain ⟨g2,hg2⟩:∃g2,c.isEmpty=g2:=⟨_,rfl⟩
     have Hg2:=Qh hg2
     clear hg2
     go_upto_region 8 with fail
     go_cut [48] (fun s48 wx=>s48= .bool g2∧EoM I w I wx)
     case first=>
      go_wp2_with fail
      go_meet
      case rel=>exact ⟨by rw [←Hg2.out],M6.out⟩
     case rest=>
      obtain ⟨rfl,hM⟩:=hcut
      replace M6:=Qh hM
      clear hM
      cases g2 with
      |true=>
       have hfx:=Qh (show u2++p0=tt by have:=HF.out;rw [if_pos (List.isEmpty_iff.1 Hg2.out)] at this;rw [this,Htf.out])
       have d4:¬9223372036854775807<u2.length+p0.length:=by omega
       clear HF
       go_wp2_with fail
       refine (Hn0.out _).mono ?_
       rintro e7 w7 ⟨rfl,hb7⟩
       have M7:=Qh (M6.out.thru hb7)
       clear hb7 M6
       go_wp2_with fail
       go_meet
       case rel=>exact ⟨by rw [←hfx.out],M7.out⟩
      |false=>
       have hfx:=Qh (show (((u2++p11)++p11)++p0)++pc=tt by
        have:=HF.out
        rw [if_neg (fun q=>by have:=Hg2.out;rw [q] at this;cases this)] at this
        rw [←Htf.out.symm,←this]
        simp only [List.append_assoc])
       have g1:¬9223372036854775807<u2.length+p11.length:=by omega
       have g2:¬9223372036854775807<(u2++p11).length+p11.length:=by rw [List.length_append];omega
       have g3:¬9223372036854775807<(u2++p11++p11).length+p0.length:=by rw [List.length_append,List.length_append];omega
       have g4:¬9223372036854775807<(u2++p11++p11++p0).length+pc.length:=by rw [List.length_append,List.length_append,List.length_append];omega
       obtain ⟨x1,hx1⟩:∃v,u2++p11=v:=⟨_,rfl⟩
       rw [hx1] at g2 g3 g4 hfx
       obtain ⟨x2,hx2⟩:∃v,x1++p11=v:=⟨_,rfl⟩
       rw [hx2] at g3 g4 hfx
       obtain ⟨x3,hx3⟩:∃v,x2++p0=v:=⟨_,rfl⟩
       rw [hx3] at g4 hfx
       clear HF
       go_wp2_with fail
       refine (Hn1.out _).mono ?_
       rintro e7 w7 ⟨rfl,hb7⟩
       have M7:=Qh (M6.out.thru hb7)
       clear hb7 M6
       go_wp2_with fail
       refine (Hn1.out _).mono ?_
       rintro e8 w8 ⟨rfl,hb8⟩
       have M8:=Qh (M7.out.thru hb8)
       clear hb8 M7
       go_wp2_with fail
       refine (Hn0.out _).mono ?_
       rintro e9 w9 ⟨rfl,hb9⟩
       have M9:=Qh (M8.out.thru hb9)
       clear hb9 M8
       go_wp2_with fail
       refine (Hnc.out _).mono ?_
       rintro e10 w10 ⟨rfl,hb10⟩
       have M10:=Qh (M9.out.thru hb10)
       clear hb10 M9
       go_wp2_with fail
       go_meet
       case rel=>exact ⟨by rw [←hfx.out],M10.out⟩
   case rest=>
    obtain ⟨rfl,hM⟩:=hcut
    have MA:=Qh hM
    clear hM M3
    go_wp2_with fail
    refine (Hd.out _ MA.out.mt.ok).mono ?_
    intro eB wB hd
    cases R with
    |ok p=>
     obtain ⟨p,bb⟩:=p
     obtain ⟨va,vx,J,rfl,hva,hvx,hx,hok,hb⟩:=hd
     have HPk:=Qh (show P=(p,p.kind==1 || p.kind==2 || p.kind==3) from HP2.out)
     have q3:((0:Int)==0)=true:=rfl
     clear HP2
     obtain ⟨xa,ca,rfl,_,_,_⟩:=id hva
     obtain ⟨xx,cx,rfl,_,_,_⟩:=id hvx
     have VA:=Qh hva
     have VX:=Qh hvx
     have kB:=Qh ((MA.out.ext hb hx hok).past (.cells zeroRow 26))
     have hJn:=hok.fresh (Qn _)
     have hgtB:=(MA.out.thru hb).lt
     have HB:=Qh (heap_alloc_new wB (.cells zeroRow 26))
     clear hva hvx hx hok hb MA
     go_wp2_with (refine Xab rfl rfl 26 _ _ rfl wB.heap.size 0 (entRow p (.slice xa p.attrs.length ca) (.slice xx p.exts.length cx)).toList (entV p (.slice xa p.attrs.length ca) (.slice xx p.exts.length cx)) (by simp [Act.eval,Act.put]) (by simp [Act.eval,Act.put]) (by rfl) zeroRow 26 HB.out (by simp) hi7 (by simp [Value.oneCell']) (entRow p (.slice xa p.attrs.length ca) (.slice xx p.exts.length cx)) (by rfl) ?_
                  intro wC hgC hrC
                  have Q:=Qh (kB.out.new hgC hJn hgtB)
                  obtain ⟨y0,y1,y2,y3,y4,y5,y6⟩:=ent_row hrC)
     by_cases hk1:p.kind=1
     ·have q1:(p.kind==1)=true:=by simpa using hk1
      have q2:=q1
      have q4:=q1
      have HP:=Qh (show P=(p,true) by rw [HPk.out,q1];rfl)
      clear hk1 HPk
      go_wp2_with fail
      refine Xad (X:=Unit) (fbL (entV p (.slice xa p.attrs.length ca) (.slice xx p.exts.length cx)) wB.heap.size c 0 p.kind true) (RgE wC 231 241 232 242 233 243 234 244 (fun _ _=>True) (fun _ _=>True) (fun _ _=>True) (fun _ _=>True) (fun _ _=>True) (fun _ _=>True) (fun x=>w.heap.size) 26 18 221 222 (fun x=>entRow p (.slice xa p.attrs.length ca) (.slice xx p.exts.length cx)) (fun x=>entRow p (.slice xa p.attrs.length ca) (.slice xx p.exts.length cx)) (fun x=>entRow p (.slice xa p.attrs.length ca) (.slice xx p.exts.length cx))) (by kernel_rfl) (by kernel_rfl) ?_ ?_ ?_
      ·exact ⟨(),RgE.start _ _ trivial⟩
      ·rintro x s' a' w' i hsz hcl ha hC hi
       obtain ⟨hun,oi,hoi,hall⟩:=mem_ready.1 hi
       have ev:=Xb6 Xbn ha
       have hlt:=Xde hun
       rcases i with _|_|_|_|_|_|_|_|_|_|_|_|_|_|_|_|_|_|_|_|i
       rotate_left 20
       ·simp at hoi
       all_goals
        have hoj:=hoi
        simp at hoi
        subst hoi
        simp [Region.binds] at hall
        try have hl:=Xa5 6 18 hcl (by decide +kernel) hun
        try have hbw:=hC.off hl
        have y0:=hC.cell y0 (by show w.heap.size≠wB.heap.size;omega)
        have y1:=hC.cell y1 (by show w.heap.size≠wB.heap.size;omega)
        have y2:=hC.cell y2 (by show w.heap.size≠wB.heap.size;omega)
        have y3:=hC.cell y3 (by show w.heap.size≠wB.heap.size;omega)
        have y4:=hC.cell y4 (by show w.heap.size≠wB.heap.size;omega)
        have y5:=hC.cell y5 (by show w.heap.size≠wB.heap.size;omega)
        have y6:=hC.cell y6 (by show w.heap.size≠wB.heap.size;omega)
        refine wpOp_step hoj (fun K' hK=> ?_)
        first|rw [if_pos (by rfl)]|rw [if_pos (by unfold Region.wanted;dsimp only;rw [Xal (j:=3) (t:=72) (b:=true) (by rfl) (by simp [ev,evF,hall])];rfl)]|skip
       rotate_left 8
       ·rw [if_neg (by unfold Region.wanted;dsimp only;rw [Xal (j:=7) (t:=76) (b:=true) (by rfl) (by simp [ev,evF,hall])];decide)]
        exact hK _ _ ⟨x,Xag Xbn ha rfl hun,hC.pure (by decide)⟩
       ·rw [if_neg (by unfold Region.wanted;dsimp only;rw [Xal (j:=7) (t:=76) (b:=true) (by rfl) (by simp [ev,evF,hall])];decide)]
        exact hK _ _ ⟨x,Xag Xbn ha rfl hun,hC.pure (by decide)⟩
       ·rw [if_neg (by unfold Region.wanted;dsimp only;rw [Xal (j:=7) (t:=76) (b:=true) (by rfl) (by simp [ev,evF,hall])];decide)]
        exact hK _ _ ⟨x,Xag Xbn ha rfl hun,hC.pure (by decide)⟩
       rotate_left 2
       ·rw [if_neg (by unfold Region.wanted;dsimp only;rw [Xal (j:=12) (t:=81) (b:=true) (by rfl) (by simp [ev,evF,hall])];decide)]
        exact hK _ _ ⟨x,Xag Xbn ha rfl hun,hC.pure (by decide)⟩
       ·rw [if_neg (by unfold Region.wanted;dsimp only;rw [Xal (j:=12) (t:=81) (b:=true) (by rfl) (by simp [ev,evF,hall])];decide)]
        exact hK _ _ ⟨x,Xag Xbn ha rfl hun,hC.pure (by decide)⟩
       ·rw [if_neg (by unfold Region.wanted;dsimp only;rw [Xal (j:=12) (t:=81) (b:=true) (by rfl) (by simp [ev,evF,hall])];decide)]
        exact hK _ _ ⟨x,Xag Xbn ha rfl hun,hC.pure (by decide)⟩
       rotate_left 2
       ·have hrow:w'.heap[w.heap.size]? =some (.cells _ 26 (0,0)):=(hbw.block _ (Array.getElem?_eq_some_iff.1 Q.out.res).1).trans Q.out.res
        refine Xam 26 _ _ rfl (w.heap.size) 0 (entRow p (.slice xa p.attrs.length ca) (.slice xx p.exts.length cx)).toList (entV p (.slice xa p.attrs.length ca) (.slice xx p.exts.length cx)) (by simp [Act.eval,ev,evF,hall]) (by simp [Act.eval,ev,evF,hall]) (by rfl) _ _ hrow (by simp) (by kernel_rfl) (by simp [Value.oneCell']) ?_
        exact hK _ _ ⟨x,Xae (d:=none) (v:=undef) Xbn ha rfl hun,hC.put1 hun trivial (Xaq (by simp [hsz])) (Xaq (by simp [hsz])) (by decide) hrow (by rfl)⟩
       all_goals
        unfold Oper.wp
        first
        |(simp [go_sem,ev,evF,hall,Oper.upon,y0,y1,y2,y3,y4,y5,y6,q1,q2,q3,q4];exact hK _ _ ⟨x,Xag Xbn ha rfl hun,hC.pure (by decide)⟩)
        |(simp [go_sem,ev,evF,Oper.upon,y0,y1,y2,y3,y4,y5,y6,q1,q2,q3,q4];exact hK _ _ ⟨x,Xag Xbn ha rfl hun,hC.pure (by decide)⟩)
      ·rintro x s' a' wE hup ha hC
       obtain ⟨wb,hbW,hFin,hgr,hrow⟩:=hC.on (hup 18 (by decide))
       simp only [ite_self] at hrow
       rw [Xao _ _ _ _ (fun i hi=>by rw [Nat.zero_add];exact hup i (by simpa using hi))] at ha
       subst ha
       simp only [fillAll,Act.put,List.setIfInBounds_toArray,List.set_cons_succ,List.set_cons_zero]
       have hbE:=(Q.out.mt.bel.trans (hbW.mono Q.out.mt.size)).grown hgr (Nat.le_trans Q.out.mt.size hbW.size) (fun g q=>by injection q with q;omega)
       have hok:=(Q.out.mt.ok.below (Qn _) hbW).grown hgr (fun g q=>by injection q with q;subst q;exact Q.out.fr)
       clear hC hup
       go_wp2
       refine bodyPost_ret (Xau rfl _ _ _ rfl hrow rfl Tryz.underlying26 hi7) rfl ?_
       rw [HP.out]
       exact ⟨_,_,J,rfl,VA.out,VX.out,Q.out.ex,hok,hbE⟩
     ·have q1:(p.kind==1)=false:=by simpa using hk1
      by_cases hk2:p.kind=2
      ·have q2:(p.kind==2)=true:=by simpa using hk2
       have q4:=q2
       have HP:=Qh (show P=(p,true) by rw [HPk.out,q1,q2];rfl)
       clear hk1 hk2 HPk
       go_wp2_with fail
       refine Xad (X:=Unit) (fcL (entV p (.slice xa p.attrs.length ca) (.slice xx p.exts.length cx)) wB.heap.size c 0 p.kind true) (RgE wC 231 241 232 242 233 243 234 244 (fun _ _=>True) (fun _ _=>True) (fun _ _=>True) (fun _ _=>True) (fun _ _=>True) (fun _ _=>True) (fun x=>w.heap.size) 26 18 221 222 (fun x=>entRow p (.slice xa p.attrs.length ca) (.slice xx p.exts.length cx)) (fun x=>entRow p (.slice xa p.attrs.length ca) (.slice xx p.exts.length cx)) (fun x=>entRow p (.slice xa p.attrs.length ca) (.slice xx p.exts.length cx))) (by kernel_rfl) (by kernel_rfl) ?_ ?_ ?_
       ·exact ⟨(),RgE.start _ _ trivial⟩
       ·rintro x s' a' w' i hsz hcl ha hC hi
        obtain ⟨hun,oi,hoi,hall⟩:=mem_ready.1 hi
        have ev:=Xb6 Xcl ha
        have hlt:=Xde hun
        rcases i with _|_|_|_|_|_|_|_|_|_|_|_|_|_|_|_|_|_|_|_|i
        rotate_left 20
        ·simp at hoi
        all_goals
         have hoj:=hoi
         simp at hoi
         subst hoi
         simp [Region.binds] at hall
         try have hl:=Xa5 6 18 hcl (by decide +kernel) hun
         try have hbw:=hC.off hl
         have y0:=hC.cell y0 (by show w.heap.size≠wB.heap.size;omega)
         have y1:=hC.cell y1 (by show w.heap.size≠wB.heap.size;omega)
         have y2:=hC.cell y2 (by show w.heap.size≠wB.heap.size;omega)
         have y3:=hC.cell y3 (by show w.heap.size≠wB.heap.size;omega)
         have y4:=hC.cell y4 (by show w.heap.size≠wB.heap.size;omega)
         have y5:=hC.cell y5 (by show w.heap.size≠wB.heap.size;omega)
         have y6:=hC.cell y6 (by show w.heap.size≠wB.heap.size;omega)
         refine wpOp_step hoj (fun K' hK=> ?_)
         first|rw [if_pos (by rfl)]|rw [if_pos (by unfold Region.wanted;dsimp only;rw [Xal (j:=3) (t:=72) (b:=true) (by rfl) (by simp [ev,evF,hall])];rfl)]|rw [if_pos (by unfold Region.wanted;dsimp only;rw [Xal (j:=7) (t:=76) (b:=false) (by rfl) (by simp [ev,evF,hall])];rfl)]|skip
        rotate_left 13
        ·rw [if_neg (by unfold Region.wanted;dsimp only;rw [Xal (j:=12) (t:=81) (b:=true) (by rfl) (by simp [ev,evF,hall])];decide)]
         exact hK _ _ ⟨x,Xag Xcl ha rfl hun,hC.pure (by decide)⟩
        ·rw [if_neg (by unfold Region.wanted;dsimp only;rw [Xal (j:=12) (t:=81) (b:=true) (by rfl) (by simp [ev,evF,hall])];decide)]
         exact hK _ _ ⟨x,Xag Xcl ha rfl hun,hC.pure (by decide)⟩
        ·rw [if_neg (by unfold Region.wanted;dsimp only;rw [Xal (j:=12) (t:=81) (b:=true) (by rfl) (by simp [ev,evF,hall])];decide)]
         exact hK _ _ ⟨x,Xag Xcl ha rfl hun,hC.pure (by decide)⟩
        rotate_left 2
        ·have hrow:w'.heap[w.heap.size]? =some (.cells _ 26 (0,0)):=(hbw.block _ (Array.getElem?_eq_some_iff.1 Q.out.res).1).trans Q.out.res
         refine Xam 26 _ _ rfl (w.heap.size) 0 (entRow p (.slice xa p.attrs.length ca) (.slice xx p.exts.length cx)).toList (entV p (.slice xa p.attrs.length ca) (.slice xx p.exts.length cx)) (by simp [Act.eval,ev,evF,hall]) (by simp [Act.eval,ev,evF,hall]) (by rfl) _ _ hrow (by simp) (by kernel_rfl) (by simp [Value.oneCell']) ?_
         exact hK _ _ ⟨x,Xae (d:=none) (v:=undef) Xcl ha rfl hun,hC.put1 hun trivial (Xaq (by simp [hsz])) (Xaq (by simp [hsz])) (by decide) hrow (by rfl)⟩
        all_goals
         unfold Oper.wp
         first
         |(simp [go_sem,ev,evF,hall,Oper.upon,y0,y1,y2,y3,y4,y5,y6,q1,q2,q3,q4];exact hK _ _ ⟨x,Xag Xcl ha rfl hun,hC.pure (by decide)⟩)
         |(simp [go_sem,ev,evF,Oper.upon,y0,y1,y2,y3,y4,y5,y6,q1,q2,q3,q4];exact hK _ _ ⟨x,Xag Xcl ha rfl hun,hC.pure (by decide)⟩)
       ·rintro x s' a' wE hup ha hC
        obtain ⟨wb,hbW,hFin,hgr,hrow⟩:=hC.on (hup 18 (by decide))
        simp only [ite_self] at hrow
        rw [Xao _ _ _ _ (fun i hi=>by rw [Nat.zero_add];exact hup i (by simpa using hi))] at ha
        subst ha
        simp only [fillAll,Act.put,List.setIfInBounds_toArray,List.set_cons_succ,List.set_cons_zero]
        have hbE:=(Q.out.mt.bel.trans (hbW.mono Q.out.mt.size)).grown hgr (Nat.le_trans Q.out.mt.size hbW.size) (fun g q=>by injection q with q;omega)
        have hok:=(Q.out.mt.ok.below (Qn _) hbW).grown hgr (fun g q=>by injection q with q;subst q;exact Q.out.fr)
        clear hC hup
        go_wp2
        refine bodyPost_ret (Xau rfl _ _ _ rfl hrow rfl Tryz.underlying26 hi7) rfl ?_
        rw [HP.out]
        exact ⟨_,_,J,rfl,VA.out,VX.out,Q.out.ex,hok,hbE⟩
      ·have q2:(p.kind==2)=false:=by simpa using hk2
       obtain ⟨bk,q4⟩:∃bk,(p.kind==3)=bk:=⟨_,rfl⟩
       have HP:=Qh (show P=(p,bk) by rw [HPk.out,q1,q2,q4];rfl)
       clear hk1 hk2 HPk
       go_wp2_with fail
       refine Xad (X:=Unit) (fdL (entV p (.slice xa p.attrs.length ca) (.slice xx p.exts.length cx)) wB.heap.size c 0 p.kind bk) (RgE wC 231 241 232 242 233 243 234 244 (fun _ _=>True) (fun _ _=>True) (fun _ _=>True) (fun _ _=>True) (fun _ _=>True) (fun _ _=>True) (fun x=>w.heap.size) 26 18 221 222 (fun x=>entRow p (.slice xa p.attrs.length ca) (.slice xx p.exts.length cx)) (fun x=>entRow p (.slice xa p.attrs.length ca) (.slice xx p.exts.length cx)) (fun x=>entRow p (.slice xa p.attrs.length ca) (.slice xx p.exts.length cx))) (by kernel_rfl) (by kernel_rfl) ?_ ?_ ?_
       ·exact ⟨(),RgE.start _ _ trivial⟩
       ·rintro x s' a' w' i hsz hcl ha hC hi
        obtain ⟨hun,oi,hoi,hall⟩:=mem_ready.1 hi
        have ev:=Xb6 Xfh ha
        have hlt:=Xde hun
        rcases i with _|_|_|_|_|_|_|_|_|_|_|_|_|_|_|_|_|_|_|_|i
        rotate_left 20
        ·simp at hoi
        all_goals
         have hoj:=hoi
         simp at hoi
         subst hoi
         simp [Region.binds] at hall
         try have hl:=Xa5 6 18 hcl (by decide +kernel) hun
         try have hbw:=hC.off hl
         have y0:=hC.cell y0 (by show w.heap.size≠wB.heap.size;omega)
         have y1:=hC.cell y1 (by show w.heap.size≠wB.heap.size;omega)
         have y2:=hC.cell y2 (by show w.heap.size≠wB.heap.size;omega)
         have y3:=hC.cell y3 (by show w.heap.size≠wB.heap.size;omega)
         have y4:=hC.cell y4 (by show w.heap.size≠wB.heap.size;omega)
         have y5:=hC.cell y5 (by show w.heap.size≠wB.heap.size;omega)
         have y6:=hC.cell y6 (by show w.heap.size≠wB.heap.size;omega)
         refine wpOp_step hoj (fun K' hK=> ?_)
         first|rw [if_pos (by rfl)]|rw [if_pos (by unfold Region.wanted;dsimp only;rw [Xal (j:=3) (t:=72) (b:=true) (by rfl) (by simp [ev,evF,hall])];rfl)]|rw [if_pos (by unfold Region.wanted;dsimp only;rw [Xal (j:=7) (t:=76) (b:=false) (by rfl) (by simp [ev,evF,hall])];rfl)]|rw [if_pos (by unfold Region.wanted;dsimp only;rw [Xal (j:=12) (t:=81) (b:=false) (by rfl) (by simp [ev,evF,hall])];rfl)]
        rotate_left 18
        ·have hrow:w'.heap[w.heap.size]? =some (.cells _ 26 (0,0)):=(hbw.block _ (Array.getElem?_eq_some_iff.1 Q.out.res).1).trans Q.out.res
         refine Xam 26 _ _ rfl (w.heap.size) 0 (entRow p (.slice xa p.attrs.length ca) (.slice xx p.exts.length cx)).toList (entV p (.slice xa p.attrs.length ca) (.slice xx p.exts.length cx)) (by simp [Act.eval,ev,evF,hall]) (by simp [Act.eval,ev,evF,hall]) (by rfl) _ _ hrow (by simp) (by kernel_rfl) (by simp [Value.oneCell']) ?_
         exact hK _ _ ⟨x,Xae (d:=none) (v:=undef) Xfh ha rfl hun,hC.put1 hun trivial (Xaq (by simp [hsz])) (Xaq (by simp [hsz])) (by decide) hrow (by rfl)⟩
        all_goals
         unfold Oper.wp
         first
         |(simp [go_sem,ev,evF,hall,Oper.upon,y0,y1,y2,y3,y4,y5,y6,q1,q2,q3,q4];exact hK _ _ ⟨x,Xag Xfh ha rfl hun,hC.pure (by decide)⟩)
         |(simp [go_sem,ev,evF,Oper.upon,y0,y1,y2,y3,y4,y5,y6,q1,q2,q3,q4];exact hK _ _ ⟨x,Xag Xfh ha rfl hun,hC.pure (by decide)⟩)
       ·rintro x s' a' wE hup ha hC
        obtain ⟨wb,hbW,hFin,hgr,hrow⟩:=hC.on (hup 18 (by decide))
        simp only [ite_self] at hrow
        rw [Xao _ _ _ _ (fun i hi=>by rw [Nat.zero_add];exact hup i (by simpa using hi))] at ha
        subst ha
        simp only [fillAll,Act.put,List.setIfInBounds_toArray,List.set_cons_succ,List.set_cons_zero]
        have hbE:=(Q.out.mt.bel.trans (hbW.mono Q.out.mt.size)).grown hgr (Nat.le_trans Q.out.mt.size hbW.size) (fun g q=>by injection q with q;omega)
        have hok:=(Q.out.mt.ok.below (Qn _) hbW).grown hgr (fun g q=>by injection q with q;subst q;exact Q.out.fr)
        clear hC hup
        go_wp2
        refine bodyPost_ret (Xau rfl _ _ _ rfl hrow rfl Tryz.underlying26 hi7) rfl ?_
        rw [HP.out]
        exact ⟨_,_,J,rfl,VA.out,VX.out,Q.out.ex,hok,hbE⟩
    |error z2=>
     obtain ⟨rfl,hb⟩:=hd
     have q2:(z2==0)=false:=by simpa using Hb.out z2 rfl
     have HP:=Qh (show P=(zE,false) from HP2.out)
     have q1:=q2
     have q3:=q2
     have q4:=q2
     clear HP2
     have kB:=Qh ((MA.out.thru hb).past (.cells zeroRow 26))
     have hJn:=(MA.out.thru hb).mt.ok.fresh (Qn _)
     have hgtB:=(MA.out.thru hb).lt
     have HB:=Qh (heap_alloc_new wB (.cells zeroRow 26))
     clear hb MA
     go_wp2_with (refine Xab rfl rfl 26 _ _ rfl wB.heap.size 0 zeroRow.toList (.agg zeroRow) (by simp [Act.eval,Act.put]) (by simp [Act.eval,Act.put]) (by rfl) zeroRow 26 HB.out (by simp) hi7 (by simp [Value.oneCell']) zeroRow (by rfl) ?_
                  intro wC hgC hrC
                  have MC:=Qh (kB.out.new hgC hJn hgtB))
     have Q:=MC
     obtain ⟨y0,y1,y2,y3,y4,y5,y6⟩:=ent_row (e:=zE) (va:= .slice none 0 0) (vx:= .slice none 0 0) hrC
     have VA:=Qh (RdS.nil tAt I)
     have VX:=Qh (RdS.nil tXt I)
     have hgtC:=hgtB
     go_wp2_with fail
     refine Xad (X:=Unit) (faL (entV zE (.slice none 0 0) (.slice none 0 0)) wB.heap.size c z2 0 false) (RgE wC 231 241 232 242 233 243 234 244 (fun _ _=>True) (fun _ _=>True) (fun _ _=>True) (fun _ _=>True) (fun _ _=>True) (fun _ _=>True) (fun x=>w.heap.size) 26 18 221 222 (fun x=>entRow zE (.slice none 0 0) (.slice none 0 0)) (fun x=>entRow zE (.slice none 0 0) (.slice none 0 0)) (fun x=>entRow zE (.slice none 0 0) (.slice none 0 0))) (by kernel_rfl) (by kernel_rfl) ?_ ?_ ?_
     ·exact ⟨(),RgE.start _ _ trivial⟩
     ·rintro x s' a' w' i hsz hcl ha hC hi
      obtain ⟨hun,oi,hoi,hall⟩:=mem_ready.1 hi
      have ev:=Xb6 Xa0 ha
      have hlt:=Xde hun
      rcases i with _|_|_|_|_|_|_|_|_|_|_|_|_|_|_|_|_|_|_|_|i
      rotate_left 20
      ·simp at hoi
      all_goals
       have hoj:=hoi
       simp at hoi
       subst hoi
       simp [Region.binds] at hall
       try have hl:=Xa5 6 18 hcl (by decide +kernel) hun
       try have hbw:=hC.off hl
       have y0:=hC.cell y0 (by show w.heap.size≠wB.heap.size;omega)
       have y1:=hC.cell y1 (by show w.heap.size≠wB.heap.size;omega)
       have y2:=hC.cell y2 (by show w.heap.size≠wB.heap.size;omega)
       have y3:=hC.cell y3 (by show w.heap.size≠wB.heap.size;omega)
       have y4:=hC.cell y4 (by show w.heap.size≠wB.heap.size;omega)
       have y5:=hC.cell y5 (by show w.heap.size≠wB.heap.size;omega)
       have y6:=hC.cell y6 (by show w.heap.size≠wB.heap.size;omega)
       refine wpOp_step hoj (fun K' hK=> ?_)
       first|rw [if_pos (by rfl)]|skip
      rotate_left 4
      ·rw [if_neg (by unfold Region.wanted;dsimp only;rw [Xal (j:=3) (t:=72) (b:=false) (by rfl) (by simp [ev,evF,hall])];decide)]
       exact hK _ _ ⟨x,Xag Xa0 ha rfl hun,hC.pure (by decide)⟩
      ·rw [if_neg (by unfold Region.wanted;dsimp only;rw [Xal (j:=3) (t:=72) (b:=false) (by rfl) (by simp [ev,evF,hall])];decide)]
       exact hK _ _ ⟨x,Xag Xa0 ha rfl hun,hC.pure (by decide)⟩
      ·rw [if_neg (by unfold Region.wanted;dsimp only;rw [Xal (j:=3) (t:=72) (b:=false) (by rfl) (by simp [ev,evF,hall])];decide)]
       exact hK _ _ ⟨x,Xag Xa0 ha rfl hun,hC.pure (by decide)⟩
      ·rw [if_neg (by unfold Region.wanted;dsimp only;rw [Xal (j:=3) (t:=72) (b:=false) (by rfl) (by simp [ev,evF,hall])];decide)]
       exact hK _ _ ⟨x,Xag Xa0 ha rfl hun,hC.pure (by decide)⟩
      ·rw [if_neg (by unfold Region.wanted;dsimp only;rw [Xbj (j:=7) (t:=76) (by rfl) (by simp [ev,evF,hall])];decide)]
       exact hK _ _ ⟨x,Xag Xa0 ha rfl hun,hC.pure (by decide)⟩
      ·rw [if_neg (by unfold Region.wanted;dsimp only;rw [Xbj (j:=7) (t:=76) (by rfl) (by simp [ev,evF,hall])];decide)]
       exact hK _ _ ⟨x,Xag Xa0 ha rfl hun,hC.pure (by decide)⟩
      ·rw [if_neg (by unfold Region.wanted;dsimp only;rw [Xbj (j:=7) (t:=76) (by rfl) (by simp [ev,evF,hall])];decide)]
       exact hK _ _ ⟨x,Xag Xa0 ha rfl hun,hC.pure (by decide)⟩
      ·rw [if_neg (by unfold Region.wanted;dsimp only;rw [Xal (j:=3) (t:=72) (b:=false) (by rfl) (by simp [ev,evF,hall])];decide)]
       exact hK _ _ ⟨x,Xag Xa0 ha rfl hun,hC.pure (by decide)⟩
      ·rw [if_neg (by unfold Region.wanted;dsimp only;rw [Xal (j:=3) (t:=72) (b:=false) (by rfl) (by simp [ev,evF,hall])];decide)]
       exact hK _ _ ⟨x,Xag Xa0 ha rfl hun,hC.pure (by decide)⟩
      ·rw [if_neg (by unfold Region.wanted;dsimp only;rw [Xbj (j:=12) (t:=81) (by rfl) (by simp [ev,evF,hall])];decide)]
       exact hK _ _ ⟨x,Xag Xa0 ha rfl hun,hC.pure (by decide)⟩
      ·rw [if_neg (by unfold Region.wanted;dsimp only;rw [Xbj (j:=12) (t:=81) (by rfl) (by simp [ev,evF,hall])];decide)]
       exact hK _ _ ⟨x,Xag Xa0 ha rfl hun,hC.pure (by decide)⟩
      ·rw [if_neg (by unfold Region.wanted;dsimp only;rw [Xbj (j:=12) (t:=81) (by rfl) (by simp [ev,evF,hall])];decide)]
       exact hK _ _ ⟨x,Xag Xa0 ha rfl hun,hC.pure (by decide)⟩
      ·rw [if_neg (by unfold Region.wanted;dsimp only;rw [Xal (j:=3) (t:=72) (b:=false) (by rfl) (by simp [ev,evF,hall])];decide)]
       exact hK _ _ ⟨x,Xag Xa0 ha rfl hun,hC.pure (by decide)⟩
      rotate_left 1
      ·have hrow:w'.heap[w.heap.size]? =some (.cells _ 26 (0,0)):=(hbw.block _ (Array.getElem?_eq_some_iff.1 Q.out.res).1).trans Q.out.res
       refine Xam 26 _ _ rfl (w.heap.size) 0 (entRow zE (.slice none 0 0) (.slice none 0 0)).toList (entV zE (.slice none 0 0) (.slice none 0 0)) (by simp [Act.eval,ev,evF,hall]) (by simp [Act.eval,ev,evF,hall]) (by rfl) _ _ hrow (by simp) (by kernel_rfl) (by simp [Value.oneCell']) ?_
       exact hK _ _ ⟨x,Xae (d:=none) (v:=undef) Xa0 ha rfl hun,hC.put1 hun trivial (Xaq (by simp [hsz])) (Xaq (by simp [hsz])) (by decide) hrow (by rfl)⟩
      all_goals
       unfold Oper.wp
       first
       |(simp [go_sem,ev,evF,hall,Oper.upon,y0,y1,y2,y3,y4,y5,y6,q1,q2,q3,q4];exact hK _ _ ⟨x,Xag Xa0 ha rfl hun,hC.pure (by decide)⟩)
       |(simp [go_sem,ev,evF,Oper.upon,y0,y1,y2,y3,y4,y5,y6,q1,q2,q3,q4];exact hK _ _ ⟨x,Xag Xa0 ha rfl hun,hC.pure (by decide)⟩)
     ·rintro x s' a' wE hup ha hC
      obtain ⟨wb,hbW,hFin,hgr,hrow⟩:=hC.on (hup 18 (by decide))
      simp only [ite_self] at hrow
      rw [Xao _ _ _ _ (fun i hi=>by rw [Nat.zero_add];exact hup i (by simpa using hi))] at ha
      subst ha
      simp only [fillAll,Act.put,List.setIfInBounds_toArray,List.set_cons_succ,List.set_cons_zero]
      have hbE:=(Q.out.mt.bel.trans (hbW.mono Q.out.mt.size)).grown hgr (Nat.le_trans Q.out.mt.size hbW.size) (fun g q=>by injection q with q;omega)
      have hok:=(Q.out.mt.ok.below (Qn _) hbW).grown hgr (fun g q=>by injection q with q;subst q;exact Q.out.fr)
      clear hC hup
      go_wp2
      refine bodyPost_ret (Xau rfl _ _ _ rfl hrow rfl Tryz.underlying26 hi7) rfl ?_
      rw [HP.out]
      exact ⟨_,_,I,rfl,VA.out,VX.out,Q.out.ex,hok,hbE⟩
end Go.Proofs.YtdodihnehppnmaaGreatDoor
