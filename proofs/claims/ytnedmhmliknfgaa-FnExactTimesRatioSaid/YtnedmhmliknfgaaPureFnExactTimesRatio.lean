/- FnExactTimesRatio: the program's TimesRatio and the reference's return the same, for all arguments that the statement speaks of; no further condition. -/
import Derived.Test.YtnedmhmliknfgaaPx14
import Derived.Test.YtnedmhmliknfgaaLow
import Derived.Test.YtnedmhmliknfgaaValid
namespace Go.Proofs.Ytnedmhmliknfgaa.Pure
open Go.RowKit Go.Proofs.Ytnedmhmliknfgaa.P Go.Proofs.Ytnedmhmliknfgaa.Core Go.Proofs.YtnedmhmliknfgaaW.PrintWords Go.Proofs.YtnedmhmliknfgaaW.PrintLast Go.Proofs.YtnedmhmliknfgaaW.PrintMore

theorem FnExactTimesRatio : laws_FnExactTimesRatio.Pure := by
  intro p q u v _ _ _ _
  obtain ⟨k, hk⟩ : ∃ k : Nat, 1000000000000000010 < k := ⟨1000000000000000011, by omega⟩
  refine ⟨k + 1, ?_⟩
  unfold laws_FnExactTimesRatio.f laws_toRatio.f spec_TimesRatio.f impl_TimesRatio.f
  simp only [Option.bind_some, ok_spec (k + 1) _ _ (by omega), ok_impl (k + 1) _ _ (by omega)]
  by_cases h1 : okB p q = true
  · by_cases h2 : okB u v = true
    · obtain ⟨⟨a1, a2⟩, ⟨a3, a4⟩, a5⟩ := okB_true.mp h1
      obtain ⟨⟨b1, b2⟩, ⟨b3, b4⟩, b5⟩ := okB_true.mp h2
      have l3 := lowQ_bd b1 a3
      have l4 := lowQ_bd a1 b3
      have m2 := mul_bd1 l3.1 l4.1 (show lowQ u q ≤ 1000000000 by omega) (show lowQ p v ≤ 1000000000 by omega)
      have hQ : tQ p q u v < ((k + 1 : Nat) : Int) := by unfold tQ; omega
      simp only [if_pos h1, h2, if_true, impl_TimesRatio.j0, Bool.not_true, Bool.false_eq_true, if_false]
      rw [times_spec (k + 1) p q u v ⟨a1, a3, a5⟩ ⟨b1, b3, b5⟩ a2 a4 b2 b4 hQ (by omega), times_impl k p q u v ⟨a1, a3, a5⟩ ⟨b1, b3, b5⟩ a2 a4 b2 b4 (by omega)]
      simp only [Option.bind_some, valid_eq k _ _ (show 1000000000 < k by omega), eqRatio_self, if_true]
    · have h3 : okB u v = false := by simpa using h2
      simp [h1, h3, impl_TimesRatio.j0, eqRatio_self]
  · simp [h1, impl_TimesRatio.j0, eqRatio_self]
end Go.Proofs.Ytnedmhmliknfgaa.Pure
