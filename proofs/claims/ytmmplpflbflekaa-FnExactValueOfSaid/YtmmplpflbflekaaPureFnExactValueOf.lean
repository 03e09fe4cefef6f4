/- FnExactValueOf: the program's ValueOf and the reference's return the same, for all arguments that the statement speaks of; no further condition. -/
import Derived.Test.YtmmplpflbflekaaPx21
import Derived.Test.YtmmplpflbflekaaDigCore
namespace Go.Proofs.Ytmmplpflbflekaa.Pure
open Go.RowKit Go.Proofs.Ytmmplpflbflekaa.P Go.Proofs.Ytmmplpflbflekaa.Core Go.Proofs.YtmmplpflbflekaaW.PrintWords Go.Proofs.YtmmplpflbflekaaW.PrintLast Go.Proofs.YtmmplpflbflekaaW.PrintMore

theorem FnExactValueOf : laws_FnExactValueOf.Pure := by
  intro l0 a1_0 a1_1 a1_2 a1_3 a1_4 a1_5 a1_6 a1_7 _ hw w0 w1 w2 w3 w4 w5 w6 w7
  obtain ⟨k, hk⟩ : ∃ k : Nat, k = 3 * l0.length + 100 := ⟨_, rfl⟩
  refine ⟨k + 1, ?_⟩
  unfold laws_FnExactValueOf.f
  by_cases hl : (l0.length : Int) > 1048576
  · rw [if_pos hl]
  · have hl' : l0.length ≤ 1048576 := by omega
    rw [if_neg hl]
    simp only [toStack_eq (k + 1) l0 hl' (by omega), Option.bind_some]
    have hb := bytes8 w0 w1 w2 w3 w4 w5 w6 w7
    unfold laws_toDigits.f spec_ValueOf.f impl_ValueOf.f
    simp only [digits_spec (k + 1) l0 hl' (by omega) a1_0 a1_1 a1_2 a1_3 a1_4 a1_5 a1_6 a1_7 hb, digits_impl l0 a1_0 a1_1 a1_2 a1_3 a1_4 a1_5 a1_6 a1_7, Option.bind_some]
    by_cases hv : digOK l0 [a1_0, a1_1, a1_2, a1_3, a1_4, a1_5, a1_6, a1_7] = true
    · have h8 := (validB_len (digOK_valid hv)).2
      unfold spec_l01Value.f impl_Stack_value.f
      simp only [if_pos hv, if_pos h8]
      simp [laws_FnExactValueOf.j0, toStack_eq k l0 hl' (by omega), eqStack_self k l0 hl' (by omega)]
    · simp only [if_neg hv]
      simp [laws_FnExactValueOf.j0, toStack_eq k l0 hl' (by omega), eqStack_self k l0 hl' (by omega)]

end Go.Proofs.Ytmmplpflbflekaa.Pure
