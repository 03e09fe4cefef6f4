/- FnExactCompareDigits: the program's CompareDigits and the reference's return the same, for all arguments that the statement speaks of; no further condition. -/
import Derived.Test.YtmmplpflbflekaaPx27
import Derived.Test.YtmmplpflbflekaaValCore
import Derived.Test.YtmmplpflbflekaaWrapped
namespace Go.Proofs.Ytmmplpflbflekaa.Pure
open Go.RowKit Go.Proofs.Ytmmplpflbflekaa.P Go.Proofs.Ytmmplpflbflekaa.Core Go.Proofs.YtmmplpflbflekaaW.PrintWords Go.Proofs.YtmmplpflbflekaaW.PrintLast Go.Proofs.YtmmplpflbflekaaW.PrintMore

theorem FnExactCompareDigits : laws_FnExactCompareDigits.Pure := by
  intro l0 a1_0 a1_1 a1_2 a1_3 a1_4 a1_5 a1_6 a1_7 a2_0 a2_1 a2_2 a2_3 a2_4 a2_5 a2_6 a2_7 _ hw w0 w1 w2 w3 w4 w5 w6 w7 v0 v1 v2 v3 v4 v5 v6 v7
  obtain ⟨k, hk⟩ : ∃ k : Nat, k = 3 * l0.length + 100 := ⟨_, rfl⟩
  refine ⟨k + 1, ?_⟩
  unfold laws_FnExactCompareDigits.f
  by_cases hl : (l0.length : Int) > 1048576
  · rw [if_pos hl]
  · have hl' : l0.length ≤ 1048576 := by omega
    rw [if_neg hl]
    simp only [toStack_eq (k + 1) l0 hl' (by omega), Option.bind_some]
    have hb := bytes8 w0 w1 w2 w3 w4 w5 w6 w7
    have hb2 := bytes8 v0 v1 v2 v3 v4 v5 v6 v7
    unfold laws_toDigits.f spec_CompareDigits.f impl_CompareDigits.f
    simp only [digits_spec (k + 1) l0 hl' (by omega) a1_0 a1_1 a1_2 a1_3 a1_4 a1_5 a1_6 a1_7 hb, digits_impl l0 a1_0 a1_1 a1_2 a1_3 a1_4 a1_5 a1_6 a1_7, digits_spec (k + 1) l0 hl' (by omega) a2_0 a2_1 a2_2 a2_3 a2_4 a2_5 a2_6 a2_7 hb2, digits_impl l0 a2_0 a2_1 a2_2 a2_3 a2_4 a2_5 a2_6 a2_7, Option.bind_some]
    by_cases hv : digOK l0 [a1_0, a1_1, a1_2, a1_3, a1_4, a1_5, a1_6, a1_7] = true
    · by_cases hv2 : digOK l0 [a2_0, a2_1, a2_2, a2_3, a2_4, a2_5, a2_6, a2_7] = true
      · have h8 := (validB_len (digOK_valid hv)).2
        obtain ⟨_, _, hp⟩ := sizeZ_prod (digOK_valid hv)
        obtain ⟨ea, a1, a2⟩ := valZ_eq hv hb rfl
        obtain ⟨eb, b1, b2⟩ := valZ_eq hv2 hb2 rfl
        simp only [if_pos hv, hv2, spec_CompareDigits.j0, impl_CompareDigits.j0, Bool.not_true, Bool.false_eq_true, if_false]
        unfold spec_l01Value.f impl_Stack_value.f
        simp only [if_pos h8, Option.bind_some, sign_eq]
        rw [← ea] at a1 a2
        rw [← eb] at b1 b2
        generalize valZ l0 [a1_0, a1_1, a1_2, a1_3, a1_4, a1_5, a1_6, a1_7] = X at *
        generalize valZ l0 [a2_0, a2_1, a2_2, a2_3, a2_4, a2_5, a2_6, a2_7] = Y at *
        rw [wr (show -9223372036854775808 ≤ X - Y ∧ X - Y ≤ 9223372036854775807 by omega)]
        by_cases c1 : X < Y
        · rw [if_pos c1, if_pos (show X - Y < 0 by omega)]
          simp [laws_FnExactCompareDigits.j0, toStack_eq k l0 hl' (by omega), eqStack_self k l0 hl' (by omega)]
        · by_cases c2 : X > Y
          · rw [if_neg c1, if_pos c2, if_neg (show ¬ X - Y < 0 by omega), if_pos (show X - Y > 0 by omega)]
            simp [laws_FnExactCompareDigits.j0, toStack_eq k l0 hl' (by omega), eqStack_self k l0 hl' (by omega)]
          · rw [if_neg c1, if_neg c2, if_neg (show ¬ X - Y < 0 by omega), if_neg (show ¬ X - Y > 0 by omega)]
            simp [laws_FnExactCompareDigits.j0, toStack_eq k l0 hl' (by omega), eqStack_self k l0 hl' (by omega)]
      · have hv3 : digOK l0 [a2_0, a2_1, a2_2, a2_3, a2_4, a2_5, a2_6, a2_7] = false := Bool.eq_false_iff.mpr hv2
        simp only [if_pos hv, hv3, spec_CompareDigits.j0, impl_CompareDigits.j0, Bool.not_false, if_true]
        simp [laws_FnExactCompareDigits.j0, toStack_eq k l0 hl' (by omega), eqStack_self k l0 hl' (by omega)]
    · simp only [if_neg hv, spec_CompareDigits.j0, impl_CompareDigits.j0, if_true]
      simp [laws_FnExactCompareDigits.j0, toStack_eq k l0 hl' (by omega), eqStack_self k l0 hl' (by omega)]

end Go.Proofs.Ytmmplpflbflekaa.Pure
