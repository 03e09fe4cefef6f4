/- FnExactRestAt: the program's RestAt and the reference's return the same, for all arguments that the statement speaks of; no further condition. -/
import Derived.Test.YtnedmhmliknfgaaPx3
import Derived.Test.YtnedmhmliknfgaaTeeth
namespace Go.Proofs.Ytnedmhmliknfgaa.Pure
open Go.RowKit Go.Proofs.Ytnedmhmliknfgaa.P Go.Proofs.Ytnedmhmliknfgaa.Core Go.Proofs.YtnedmhmliknfgaaW.PrintWords Go.Proofs.YtnedmhmliknfgaaW.PrintLast Go.Proofs.YtnedmhmliknfgaaW.PrintMore

theorem FnExactRestAt : laws_FnExactRestAt.Pure := by
  intro a t _ _
  unfold laws_FnExactRestAt.f spec_RestAt.f impl_RestAt.f
  simp only [Option.bind_some, teeth_spec, turn_impl, teeth_impl, decide_eq_true_eq]
  by_cases h1 : 0 ≤ a ∧ a ≤ 1000000000000000
  · by_cases h2 : (1 ≤ t ∧ t ≤ 1000) ∧ (1000 : Int) % t = 0
    · obtain ⟨e, s1, s2⟩ := step_of h2.1.1 h2.1.2
      rw [if_pos ⟨h1, h2⟩, if_pos h1, if_pos h2, if_neg (by omega), if_neg (by omega), e]
      generalize (1000 : Int) / t = s at *
      have q : Int.tdiv a s = a / s := Int.tdiv_eq_ediv_of_nonneg h1.1
      have m : Int.tmod a s = a % s := Int.tmod_eq_emod_of_nonneg h1.1
      have q0 : 0 ≤ a / s := Int.ediv_nonneg h1.1 (by omega)
      have q1 : a / s ≤ a := Int.ediv_le_self _ h1.1
      have d := Int.mul_ediv_add_emod a s
      have d0 := Int.emod_nonneg a (show s ≠ 0 by omega)
      have d1 := Int.emod_lt_of_pos a (show 0 < s by omega)
      rw [if_neg (by omega), if_neg (by omega), q, m, wr (show -9223372036854775808 ≤ a / s ∧ a / s ≤ 9223372036854775807 by omega), Int.mul_comm (a / s) s, wr (show -9223372036854775808 ≤ s * (a / s) ∧ s * (a / s) ≤ 9223372036854775807 by omega), wr (show -9223372036854775808 ≤ a - a % s ∧ a - a % s ≤ 9223372036854775807 by omega)]
      simp
      omega
    · have h3 : ¬ ((0 ≤ a ∧ a ≤ 1000000000000000) ∧ (1 ≤ t ∧ t ≤ 1000) ∧ (1000 : Int) % t = 0) := fun h => h2 h.2
      rw [if_neg h3, if_pos h1, if_neg h2]
      simp
  · have h3 : ¬ ((0 ≤ a ∧ a ≤ 1000000000000000) ∧ (1 ≤ t ∧ t ≤ 1000) ∧ (1000 : Int) % t = 0) := fun h => h1 h.1
    rw [if_neg h3, if_neg h1]
    simp

end Go.Proofs.Ytnedmhmliknfgaa.Pure
