/- FnExactLastOf: the program's LastOf and the reference's return the same, for all arguments that the statement speaks of; no further condition. -/
import Derived.Test.YtmmplpflbflekaaPx24
import Derived.Test.YtmmplpflbflekaaDigCore
namespace Go.Proofs.Ytmmplpflbflekaa.Pure
open Go.RowKit Go.Proofs.Ytmmplpflbflekaa.P Go.Proofs.Ytmmplpflbflekaa.Core Go.Proofs.YtmmplpflbflekaaW.PrintWords Go.Proofs.YtmmplpflbflekaaW.PrintLast Go.Proofs.YtmmplpflbflekaaW.PrintMore

theorem FnExactLastOf : laws_FnExactLastOf.Pure := by
  intro l0 a1_0 a1_1 a1_2 a1_3 a1_4 a1_5 a1_6 a1_7 a2 _ hw w0 w1 w2 w3 w4 w5 w6 w7 _
  obtain ⟨k, hk⟩ : ∃ k : Nat, k = 3 * l0.length + 100 := ⟨_, rfl⟩
  refine ⟨k + 1, ?_⟩
  unfold laws_FnExactLastOf.f
  by_cases hl : (l0.length : Int) > 1048576
  · rw [if_pos hl]
  · have hl' : l0.length ≤ 1048576 := by omega
    rw [if_neg hl]
    simp only [toStack_eq (k + 1) l0 hl' (by omega), Option.bind_some]
    have hb := bytes8 w0 w1 w2 w3 w4 w5 w6 w7
    unfold laws_toDigits.f spec_LastOf.f impl_LastOf.f impl_Stack_wheels.f
    simp only [digits_spec (k + 1) l0 hl' (by omega) a1_0 a1_1 a1_2 a1_3 a1_4 a1_5 a1_6 a1_7 hb, digits_impl l0 a1_0 a1_1 a1_2 a1_3 a1_4 a1_5 a1_6 a1_7, in_spec, within_f, Option.bind_some, decide_eq_true_eq]
    by_cases hv : digOK l0 [a1_0, a1_1, a1_2, a1_3, a1_4, a1_5, a1_6, a1_7] = true
    · have h8 := (validB_len (digOK_valid hv)).2
      simp only [if_pos hv]
      by_cases hw : 0 ≤ a2 ∧ a2 ≤ (l0.length : Int)
      · have h9 : (l0.take a2.toNat).length ≤ 8 := by rw [List.length_take]; omega
        unfold spec_l01Value.f impl_Stack_value.f
        simp only [if_pos hw, if_pos hw.1, if_pos hw.2, if_pos h9]
        simp [laws_FnExactLastOf.j0, toStack_eq k l0 hl' (by omega), eqStack_self k l0 hl' (by omega)]
      · simp only [if_neg hw]
        simp [laws_FnExactLastOf.j0, toStack_eq k l0 hl' (by omega), eqStack_self k l0 hl' (by omega)]
    · simp only [if_neg hv]
      simp [laws_FnExactLastOf.j0, toStack_eq k l0 hl' (by omega), eqStack_self k l0 hl' (by omega)]

end Go.Proofs.Ytmmplpflbflekaa.Pure
