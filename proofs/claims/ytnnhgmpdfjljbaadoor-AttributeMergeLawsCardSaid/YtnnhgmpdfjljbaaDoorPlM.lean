/-
  Plain laws of attribute sets: what the merge laws ask. No program.
-/
import Derived.Test.YtnnhgmpdfjljbaaDoorPlS
import Derived.Test.YtnnhgmpdfjljbaaDoorLwA
namespace Go.Proofs.YtnnhgmpdfjljbaaDoor

theorem chk_nil : chk [] = 0 := (chk_eq []).2 ⟨by simp, by simp, srt_nil⟩
theorem mergeA_ok {a b ab : List At} (h : mergeA a b = (ab, 0)) : Okl a ∧ Okl b ∧ ab = mrgA a b ∧ (mrgA a b).length ≤ 16 := by
  unfold mergeA at h
  by_cases h0 : chk a = 0
  · rw [if_neg (by omega)] at h
    by_cases h1 : chk b = 0
    · rw [if_neg (by omega)] at h
      by_cases h2 : 16 < (mrgA a b).length
      · rw [if_pos h2] at h; simp at h
      · rw [if_neg h2] at h
        exact ⟨(chk_eq a).1 h0, (chk_eq b).1 h1, (Prod.mk.inj h).1.symm, by omega⟩
    · rw [if_pos h1] at h
      exact absurd (Prod.mk.inj h).2 h1
  · rw [if_pos h0] at h
    exact absurd (Prod.mk.inj h).2 h0
theorem mergeA_eq {a b : List At} (ha : Okl a) (hb : Okl b) : mergeA a b = if 16 < (mrgA a b).length then ([], 6) else (mrgA a b, 0) := by
  rw [mergeA, if_neg (by have := (chk_eq a).2 ha; omega), if_neg (by have := (chk_eq b).2 hb; omega)]
theorem mrg_okl {a b : List At} (ha : Okl a) (hb : Okl b) (hl : (mrgA a b).length ≤ 16) : Okl (mrgA a b) := by
  obtain ⟨h1, h2⟩ := mrgA_spec hb.srt ha.srt
  refine ⟨hl, fun z hz => ?_, h1⟩
  rcases (h2 z).1 hz with hz | ⟨hz, _⟩
  · exact hb.all z hz
  · exact ha.all z hz
theorem mrg_wf {a b ab : List At} (h : mergeA a b = (ab, 0)) (ha : AllWf a) (hb : AllWf b) : AllWf ab := by
  obtain ⟨o1, o2, rfl, _⟩ := mergeA_ok h
  intro z hz
  rcases ((mrgA_spec o2.srt o1.srt).2 z).1 hz with hz | ⟨hz, _⟩
  · exact hb z hz
  · exact ha z hz

theorem mrg_self {l : List At} (h : chk l = 0) : mergeA l l = (l, 0) := by
  have o := (chk_eq l).1 h
  have e : mrgA l l = l := by
    obtain ⟨h1, h2⟩ := mrgA_spec o.srt o.srt
    refine at_ext h1 o.srt fun z => ?_
    rw [h2]
    exact ⟨fun h => h.elim id fun h => h.1, .inl⟩
  rw [mergeA_eq o o, e, if_neg (by have := o.len; omega)]
theorem mrg_nil_r {l : List At} (h : chk l = 0) : mergeA l [] = (l, 0) := by
  have o := (chk_eq l).1 h
  rw [mergeA_eq o ((chk_eq []).1 chk_nil), show mrgA l [] = l from rfl, if_neg (by have := o.len; omega)]
theorem mrg_nil_l {l : List At} (h : chk l = 0) : mergeA [] l = (l, 0) := by
  have o := (chk_eq l).1 h
  have e : mrgA [] l = l := by
    obtain ⟨h1, h2⟩ := mrgA_spec (a := []) o.srt srt_nil
    refine at_ext h1 o.srt fun z => ?_
    rw [h2]
    exact ⟨fun h => h.elim id fun h => absurd h.1 (by simp), .inl⟩
  rw [mergeA_eq ((chk_eq []).1 chk_nil) o, e, if_neg (by have := o.len; omega)]
theorem mrg_one {a : List At} (h : chk a = 0) (x : At) : mergeA a [x] = setA a x := by
  by_cases hx : atErr x = 0
  · exact merge_set h hx
  · have e : chk [x] = atErr x := by
      rw [chk, if_neg (by simp), chkFrom, if_pos hx]
    rw [mergeA, if_neg (by omega), e, if_pos hx, setA, if_neg (by omega), if_pos hx]
theorem mrg_assoc {a b c ab bc : List At} (h1 : mergeA a b = (ab, 0)) (h2 : mergeA b c = (bc, 0)) : mergeA ab c = mergeA a bc := by
  obtain ⟨oa, ob, rfl, l1⟩ := mergeA_ok h1
  obtain ⟨_, oc, rfl, l2⟩ := mergeA_ok h2
  have o1 := mrg_okl oa ob l1
  have o2 := mrg_okl ob oc l2
  have s1 := mrgA_spec ob.srt oa.srt
  have s2 := mrgA_spec oc.srt ob.srt
  have s3 := mrgA_spec oc.srt o1.srt
  have s4 := mrgA_spec o2.srt oa.srt
  have e : mrgA (mrgA a b) c = mrgA a (mrgA b c) := by
    refine at_ext s3.1 s4.1 fun z => ?_
    rw [s3.2, s4.2, s1.2, s2.2]
    have hk : (∀ y ∈ mrgA b c, y.k ≠ z.k) ↔ (∀ y ∈ c, y.k ≠ z.k) ∧ ∀ y ∈ b, y.k ≠ z.k := by
      constructor
      · intro h
        refine ⟨fun y hy => h y ((s2.2 y).2 (.inl hy)), fun y hy => ?_⟩
        by_cases hc : ∀ y' ∈ c, y'.k ≠ y.k
        · exact h y ((s2.2 y).2 (.inr ⟨hy, hc⟩))
        · have ⟨y', hy', e⟩ : ∃ y' ∈ c, y'.k = y.k := by
            apply Classical.byContradiction
            intro hn
            exact hc fun y' hy' e => hn ⟨y', hy', e⟩
          rw [← e]
          exact h y' ((s2.2 y').2 (.inl hy'))
      · rintro ⟨hc, hb⟩ y hy
        rcases (s2.2 y).1 hy with hy | ⟨hy, _⟩
        · exact hc y hy
        · exact hb y hy
    rw [hk]
    constructor
    · rintro (h | ⟨h | ⟨h, h'⟩, h''⟩)
      · exact .inl (.inl h)
      · exact .inl (.inr ⟨h, h''⟩)
      · exact .inr ⟨h, h'', h'⟩
    · rintro ((h | ⟨h, h'⟩) | ⟨h, h', h''⟩)
      · exact .inl h
      · exact .inr ⟨.inl h, h'⟩
      · exact .inr ⟨.inr ⟨h, h''⟩, h'⟩
  rw [mergeA_eq o1 oc, mergeA_eq oa o2, e]
end Go.Proofs.YtnnhgmpdfjljbaaDoor
