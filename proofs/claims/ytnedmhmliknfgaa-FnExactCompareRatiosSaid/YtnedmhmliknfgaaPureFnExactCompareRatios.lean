/- FnExactCompareRatios: the program's CompareRatios and the reference's return the same, for all arguments that the statement speaks of; no further condition. -/
import Derived.Test.YtnedmhmliknfgaaPx9
import Derived.Test.YtnedmhmliknfgaaSign
namespace Go.Proofs.Ytnedmhmliknfgaa.Pure
open Go.RowKit Go.Proofs.Ytnedmhmliknfgaa.P Go.Proofs.Ytnedmhmliknfgaa.Core Go.Proofs.YtnedmhmliknfgaaW.PrintWords Go.Proofs.YtnedmhmliknfgaaW.PrintLast Go.Proofs.YtnedmhmliknfgaaW.PrintMore

theorem FnExactCompareRatios : laws_FnExactCompareRatios.Pure := by
  intro p q s t _ _ _ _
  refine ⟨1000000001 + 1, ?_⟩
  unfold laws_FnExactCompareRatios.f laws_toRatio.f spec_CompareRatios.f impl_CompareRatios.f
  generalize hk : 1000000001 = k
  simp only [Option.bind_some, ok_spec (k + 1) _ _ (by omega), ok_impl (k + 1) _ _ (by omega), spec_CompareRatios.j0]
  by_cases h1 : okB p q = true
  · by_cases h2 : okB s t = true
    · rw [if_pos h1, if_pos h1, if_pos h2, h2]
      obtain ⟨⟨a1, a2⟩, ⟨a3, a4⟩, _⟩ := okB_true.mp h1
      obtain ⟨⟨b1, b2⟩, ⟨b3, b4⟩, _⟩ := okB_true.mp h2
      obtain ⟨m1, m2⟩ := mul_bd (show 0 ≤ p by omega) a2 (show 0 ≤ t by omega) b4
      obtain ⟨n1, n2⟩ := mul_bd (show 0 ≤ s by omega) b2 (show 0 ≤ q by omega) a4
      rw [sign_eq]
      simp only [Bool.not_true, Bool.false_eq_true, if_false, Option.bind_some]
      rw [wr (show -9223372036854775808 ≤ p * t ∧ p * t ≤ 9223372036854775807 by omega), wr (show -9223372036854775808 ≤ s * q ∧ s * q ≤ 9223372036854775807 by omega)]
      generalize p * t = X at *
      generalize s * q = Y at *
      rw [wr (by omega)]
      by_cases c1 : X < Y
      · rw [if_pos c1, if_pos (show X - Y < 0 by omega)]
        simp
      · by_cases c2 : X > Y
        · rw [if_neg c1, if_pos c2, if_neg (show ¬ X - Y < 0 by omega), if_pos (show X - Y > 0 by omega)]
          simp
        · rw [if_neg c1, if_neg c2, if_neg (show ¬ X - Y < 0 by omega), if_neg (show ¬ X - Y > 0 by omega)]
          simp
    · rw [if_pos h1, if_pos h1, if_neg h2]
      simp [h2]
  · rw [if_neg h1, if_neg h1]
    simp

end Go.Proofs.Ytnedmhmliknfgaa.Pure
