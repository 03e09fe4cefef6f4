/- The terms of a ratio, by both texts. -/
import Derived.Test.YtmjfpigkobeahaaCore
import Derived.Test.YtmjfpigkobeahaaMarks
import Derived.Test.YtmjfpigkobeahaaPx2
import Derived.Test.YtmjfpigkobeahaaPx3
namespace Go.Proofs.Ytmjfpigkobeahaa.Core
open Go.RowKit Go.Proofs.Ytmjfpigkobeahaa.P Go.Proofs.YtmjfpigkobeahaaW.PrintWords Go.Proofs.YtmjfpigkobeahaaW.PrintMore
/-- Each round makes the second number less. -/
theorem terms_rounds : ∀ (n k : Nat) (o : List Int) (p q : Int), 0 ≤ q → q ≤ n → 0 ≤ p → n + o.length ≤ 3000000000 → n < k →
    ∃ r, spec_l03Terms.l0 k o p q = some r ∧ impl_Ratio_terms.l0 k o p q = some r ∧ r.length ≤ o.length + n := by
  intro n
  induction n with
  | zero =>
    intro k o p q h0 h1 hp ho hk
    obtain ⟨k, rfl⟩ : ∃ m, k = m + 1 := ⟨k - 1, by omega⟩
    simp only [spec_l03Terms.l0, impl_Ratio_terms.l0]
    exact ⟨o, by rw [if_pos (by omega)], by rw [if_neg (by omega)], by omega⟩
  | succ n ih =>
    intro k o p q h0 h1 hp ho hk
    obtain ⟨k, rfl⟩ : ∃ m, k = m + 1 := ⟨k - 1, by omega⟩
    simp only [spec_l03Terms.l0, impl_Ratio_terms.l0]
    by_cases c : q = 0
    · exact ⟨o, by rw [if_pos c], by rw [if_neg (by omega)], by omega⟩
    · have hm := Int.tmod_lt_of_pos p (show 0 < q by omega)
      have hm2 := Int.tmod_nonneg q hp
      obtain ⟨r, a, b, d⟩ := ih k (o ++ [wrap64 (Int.tdiv p q)]) q (Int.tmod p q) hm2 (by omega) (by omega) (by simp; omega) (by omega)
      rw [if_neg c, if_pos (by omega), if_pos (by omega), if_neg c, if_pos (by omega)]
      exact ⟨r, a, b, by simp at d; omega⟩
theorem terms_both (k : Nat) (p q : Int) (hk : 1000000000 < k) : ∃ r c, spec_TermsOf.f k p q = some (r, c) ∧ impl_TermsOf.f k p q = some (r, c) ∧ r.length ≤ 1000000000 := by
  unfold spec_TermsOf.f impl_TermsOf.f
  rw [ok_spec k p q hk, ok_impl k p q hk]
  simp only [Option.bind_some]
  by_cases h : okB p q = true
  · have ho := okB_true.mp h
    obtain ⟨r, a, b, d⟩ := terms_rounds 1000000000 k [] p q (by omega) (by omega) (by omega) (by simp) hk
    unfold spec_l03Terms.f impl_Ratio_terms.f
    simp only [if_pos h, a, b, Option.bind_some]
    exact ⟨r, 0, rfl, rfl, by simpa using d⟩
  · simp only [if_neg h]
    exact ⟨[], 1, rfl, rfl, by simp⟩
end Go.Proofs.Ytmjfpigkobeahaa.Core
