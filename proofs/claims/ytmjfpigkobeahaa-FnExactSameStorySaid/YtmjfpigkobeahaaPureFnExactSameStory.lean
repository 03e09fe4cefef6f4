/- FnExactSameStory: the program's SameStory and the reference's return the same, for all arguments that the statement speaks of; no further condition. -/
import Derived.Test.YtmjfpigkobeahaaPx25
import Derived.Test.YtmjfpigkobeahaaIntLists
namespace Go.Proofs.Ytmjfpigkobeahaa.Pure
open Go.RowKit Go.Proofs.Ytmjfpigkobeahaa.P Go.Proofs.Ytmjfpigkobeahaa.Core Go.Proofs.YtmjfpigkobeahaaW.PrintWords Go.Proofs.YtmjfpigkobeahaaW.PrintLast Go.Proofs.YtmjfpigkobeahaaW.PrintMore

theorem szStory_eq (a b : List Int) (s n : Int) (hn : 0 ≤ n ∧ n ≤ 1048576) (ha : a.length ≤ maxLen) (hb : b.length ≤ maxLen) : laws_szStory.f a b s n = some (if n < (a.length : Int) + b.length then -1 else n - a.length - b.length) := by
  unfold laws_szStory.f
  rw [szI_eq a n hn ha]
  simp only [Option.bind_some]
  by_cases h : n < (a.length : Int)
  · rw [if_pos h, if_pos (by omega), if_pos (by omega)]
  · rw [if_neg h, if_neg (by omega), szI_eq b _ (by omega) hb]
    simp only [Option.bind_some]
    by_cases h2 : n - (a.length : Int) < b.length
    · rw [if_pos h2, if_pos (by omega), if_pos (by omega)]
    · rw [if_neg h2, if_neg (by omega), if_neg (by omega)]
theorem same_story (k : Nat) (a b c d : List Int) (s t : Int) (ha : a.length ≤ 1048576) (hb : b.length ≤ 1048576) (hk : 1048576 < k) : ∃ r, spec_SameStory.f k a b s c d t = some r ∧ impl_SameStory.f k a b s c d t = some r := by
  unfold spec_SameStory.f impl_SameStory.f
  rw [(sameI k a c ha (by omega)).1, (sameI k a c ha (by omega)).2, (sameI k b d hb (by omega)).1, (sameI k b d hb (by omega)).2]
  simp only [Option.bind_some]
  by_cases h1 : s = t
  · by_cases h2 : a = c
    · refine ⟨decide (b = d), ?_⟩
      by_cases h3 : b = d <;> simp [h1, h2, h3]
    · refine ⟨false, ?_⟩
      simp [h2]
  · refine ⟨false, ?_⟩
    have e : (s == t) = false := beq_eq_false_iff_ne.mpr h1
    by_cases h2 : a = c
    · by_cases h3 : b = d <;> simp [h1, h2, h3, e]
    · simp [h2]
theorem FnExactSameStory : laws_FnExactSameStory.Pure := by
  intro a b s c d t ha _ hb _ _ hc _ hd _ _
  refine ⟨1048577, ?_⟩
  unfold laws_FnExactSameStory.f
  rw [szStory_eq a b s _ (by omega) ha hb]
  simp only [Option.bind_some]
  by_cases h0 : (1048576 : Int) < (a.length : Int) + b.length
  · rw [if_pos h0, if_pos (by omega)]
  · rw [if_neg h0, if_neg (by omega), szStory_eq c d t _ (by omega) hc hd]
    simp only [Option.bind_some]
    by_cases h1 : (1048576 : Int) - a.length - b.length < (c.length : Int) + d.length
    · rw [if_pos h1, if_pos (by omega)]
    · obtain ⟨r, hr1, hr2⟩ := same_story 1048577 a b c d s t (by omega) (by omega) (by omega)
      have e0 := toI_eq 1048577 a (by omega) (by omega)
      have e1 := toI_eq 1048577 b (by omega) (by omega)
      have e2 := toI_eq 1048577 c (by omega) (by omega)
      have e3 := toI_eq 1048577 d (by omega) (by omega)
      have q0 := eqI_self 1048577 a (by omega) (by omega)
      have q1 := eqI_self 1048577 b (by omega) (by omega)
      have q2 := eqI_self 1048577 c (by omega) (by omega)
      have q3 := eqI_self 1048577 d (by omega) (by omega)
      rw [if_neg h1, if_neg (by omega)]
      simp [laws_toStory.f, laws_eqStory.f, e0, e1, e2, e3, q0, q1, q2, q3, hr1, hr2]
end Go.Proofs.Ytmjfpigkobeahaa.Pure
