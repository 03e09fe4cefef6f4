/- FnExactClicksOf: the program's ClicksOf and the reference's return the same, for all arguments that the statement speaks of; no further condition. -/
import Derived.Test.YtnedmhmliknfgaaPx5
import Derived.Test.YtnedmhmliknfgaaTeeth
namespace Go.Proofs.Ytnedmhmliknfgaa.Pure
open Go.RowKit Go.Proofs.Ytnedmhmliknfgaa.P Go.Proofs.Ytnedmhmliknfgaa.Core Go.Proofs.YtnedmhmliknfgaaW.PrintWords Go.Proofs.YtnedmhmliknfgaaW.PrintLast Go.Proofs.YtnedmhmliknfgaaW.PrintMore

theorem FnExactClicksOf : laws_FnExactClicksOf.Pure := by
  intro a b t _ _ _
  refine ⟨1, ?_⟩
  unfold laws_FnExactClicksOf.f spec_ClicksOf.f impl_ClicksOf.f
  simp only [impl_ClicksOf.j0, Option.bind_some, teeth_spec, turn_impl, teeth_impl, in_eq, decide_eq_true_eq]
  by_cases h1 : 0 ≤ a ∧ a ≤ 1000000000000000
  · by_cases h3 : 0 ≤ b ∧ b ≤ 1000000000000000
    · by_cases h2 : (1 ≤ t ∧ t ≤ 1000) ∧ (1000 : Int) % t = 0
      · obtain ⟨e, s1, s2⟩ := step_of h2.1.1 h2.1.2
        rw [if_pos ⟨h1, h2⟩, if_pos h3, if_neg (by omega), if_neg (by omega), if_pos h1, if_pos h3, decide_eq_true h2]
        simp only [Bool.not_true, Bool.false_eq_true, if_false]
        simp
      · have h4 : ¬ ((0 ≤ a ∧ a ≤ 1000000000000000) ∧ (1 ≤ t ∧ t ≤ 1000) ∧ (1000 : Int) % t = 0) := fun h => h2 h.2
        rw [if_neg h4, if_pos h1, if_pos h3, decide_eq_false h2]
        simp
    · by_cases h2 : (1 ≤ t ∧ t ≤ 1000) ∧ (1000 : Int) % t = 0
      · rw [if_pos ⟨h1, h2⟩, if_neg h3, if_pos h1, if_neg h3]
        simp
      · have h4 : ¬ ((0 ≤ a ∧ a ≤ 1000000000000000) ∧ (1 ≤ t ∧ t ≤ 1000) ∧ (1000 : Int) % t = 0) := fun h => h2 h.2
        rw [if_neg h4, if_pos h1, if_neg h3]
        simp
  · have h4 : ¬ ((0 ≤ a ∧ a ≤ 1000000000000000) ∧ (1 ≤ t ∧ t ≤ 1000) ∧ (1000 : Int) % t = 0) := fun h => h1 h.1
    rw [if_neg h4, if_neg h1]
    simp

end Go.Proofs.Ytnedmhmliknfgaa.Pure
