/- Teeth, turns and the width of a tooth, in plain words. -/
import Derived.Test.YtnedmhmliknfgaaPx2
import Derived.Test.YtnedmhmliknfgaaPx3
import Derived.Test.YtnedmhmliknfgaaCore
namespace Go.Proofs.Ytnedmhmliknfgaa.Core
open Go.RowKit Go.Proofs.Ytnedmhmliknfgaa.P Go.Proofs.YtnedmhmliknfgaaW.PrintWords

theorem beq_dec (a b : Int) : (a == b) = decide (a = b) := by
  rw [Bool.eq_iff_iff]
  simp
/-- Teeth and a turn, as the reference asks. -/
theorem teeth_spec (a t : Int) : spec_l02Teeth.f a t = some (decide ((0 ≤ a ∧ a ≤ 1000000000000000) ∧ (1 ≤ t ∧ t ≤ 1000) ∧ (1000 : Int) % t = 0)) := by
  unfold spec_l02Teeth.f
  simp only [Option.bind_some, in_eq, decide_eq_true_eq]
  by_cases h1 : 0 ≤ a ∧ a ≤ 1000000000000000
  · by_cases h2 : 1 ≤ t ∧ t ≤ 1000
    · rw [if_pos h1, if_pos h2, if_neg (by omega)]
      simp [h1, h2, beq_dec]
    · rw [if_pos h1, if_neg h2]
      simp [h2]
  · rw [if_neg h1]
    simp [h1]
theorem turn_impl (a : Int) : impl_isTurn.f a = some (decide (0 ≤ a ∧ a ≤ 1000000000000000)) := by
  unfold impl_isTurn.f
  rw [within_eq]
  rfl
theorem teeth_impl (t : Int) : impl_isTeeth.f t = some (decide ((1 ≤ t ∧ t ≤ 1000) ∧ (1000 : Int) % t = 0)) := by
  unfold impl_isTeeth.f
  simp only [Option.bind_some, within_eq, decide_eq_true_eq]
  by_cases h2 : 1 ≤ t ∧ t ≤ 1000
  · rw [if_pos h2, if_neg (by omega)]
    simp [h2, beq_dec]
  · rw [if_neg h2]
    simp [h2]
/-- The width of a tooth. -/
theorem step_of {t : Int} (h1 : 1 ≤ t) (h2 : t ≤ 1000) : wrap64 (Int.tdiv (1000 : Int) t) = 1000 / t ∧ 1 ≤ 1000 / t ∧ 1000 / t ≤ 1000 := by
  have e : Int.tdiv (1000 : Int) t = 1000 / t := Int.tdiv_eq_ediv_of_nonneg (by omega)
  have a : 1 ≤ 1000 / t := (Int.le_ediv_iff_mul_le (by omega)).mpr (by omega)
  have b : 1000 / t ≤ 1000 := Int.ediv_le_self _ (by omega)
  exact ⟨by rw [e]; exact wr (by omega), a, b⟩

end Go.Proofs.Ytnedmhmliknfgaa.Core
