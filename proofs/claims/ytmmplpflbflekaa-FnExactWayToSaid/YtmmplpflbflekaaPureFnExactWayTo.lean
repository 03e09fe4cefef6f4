/- FnExactWayTo: the program's WayTo and the reference's return the same, for all arguments that the statement speaks of; no further condition. -/
import Derived.Test.YtmmplpflbflekaaPx12
import Derived.Test.YtmmplpflbflekaaValCore
import Derived.Test.YtmmplpflbflekaaWrapped
namespace Go.Proofs.Ytmmplpflbflekaa.Pure
open Go.RowKit Go.Proofs.Ytmmplpflbflekaa.P Go.Proofs.Ytmmplpflbflekaa.Core Go.Proofs.YtmmplpflbflekaaW.PrintWords Go.Proofs.YtmmplpflbflekaaW.PrintLast Go.Proofs.YtmmplpflbflekaaW.PrintMore

theorem FnExactWayTo : laws_FnExactWayTo.Pure := by
  intro l0 a1_0 a1_1 a1_2 a1_3 a1_4 a1_5 a1_6 a1_7 a2_0 a2_1 a2_2 a2_3 a2_4 a2_5 a2_6 a2_7 _ hw w0 w1 w2 w3 w4 w5 w6 w7 v0 v1 v2 v3 v4 v5 v6 v7
  obtain ⟨k, hk⟩ : ∃ k : Nat, k = 3 * l0.length + 100 := ⟨_, rfl⟩
  refine ⟨k + 1, ?_⟩
  unfold laws_FnExactWayTo.f
  by_cases hl : (l0.length : Int) > 1048576
  · rw [if_pos hl]
  · have hl' : l0.length ≤ 1048576 := by omega
    rw [if_neg hl]
    simp only [toStack_eq (k + 1) l0 hl' (by omega), Option.bind_some]
    have hb := bytes8 w0 w1 w2 w3 w4 w5 w6 w7
    have hb2 := bytes8 v0 v1 v2 v3 v4 v5 v6 v7
    unfold laws_toDigits.f spec_WayTo.f impl_WayTo.f
    simp only [digits_spec (k + 1) l0 hl' (by omega) a1_0 a1_1 a1_2 a1_3 a1_4 a1_5 a1_6 a1_7 hb, digits_impl l0 a1_0 a1_1 a1_2 a1_3 a1_4 a1_5 a1_6 a1_7, digits_spec (k + 1) l0 hl' (by omega) a2_0 a2_1 a2_2 a2_3 a2_4 a2_5 a2_6 a2_7 hb2, digits_impl l0 a2_0 a2_1 a2_2 a2_3 a2_4 a2_5 a2_6 a2_7, Option.bind_some]
    by_cases hv : digOK l0 [a1_0, a1_1, a1_2, a1_3, a1_4, a1_5, a1_6, a1_7] = true
    · by_cases hv2 : digOK l0 [a2_0, a2_1, a2_2, a2_3, a2_4, a2_5, a2_6, a2_7] = true
      · have h8 := (validB_len (digOK_valid hv)).2
        obtain ⟨es, hp0, hp⟩ := sizeZ_prod (digOK_valid hv)
        obtain ⟨ea, a1, a2⟩ := valZ_eq hv hb rfl
        obtain ⟨eb, b1, b2⟩ := valZ_eq hv2 hb2 rfl
        simp only [if_pos hv, hv2, spec_WayTo.j0, impl_WayTo.j0, Bool.not_true, Bool.false_eq_true, if_false]
        unfold spec_l01Value.f impl_Stack_value.f
        simp only [if_pos h8, Option.bind_some, size_spec k l0 hl' (by omega), size_eq l0 (by omega) k (by omega), es]
        rw [← ea] at a1 a2
        rw [← eb] at b1 b2
        generalize valZ l0 [a1_0, a1_1, a1_2, a1_3, a1_4, a1_5, a1_6, a1_7] = X at *
        generalize valZ l0 [a2_0, a2_1, a2_2, a2_3, a2_4, a2_5, a2_6, a2_7] = Y at *
        generalize prodZ l0 = S at *
        simp only [wr (show -9223372036854775808 ≤ Y - X ∧ Y - X ≤ 9223372036854775807 by omega), wrapped_eq (Y - X) S (by omega) (by omega) (by omega) (by omega), Option.bind_some]
        by_cases c1 : Y - X > 0
        · have e : (Y - X) % S = Y - X := Int.emod_eq_of_lt (by omega) (by omega)
          rw [if_pos c1, e, if_neg (show ¬ Y - X = 0 by omega)]
          simp [laws_FnExactWayTo.j0, toStack_eq k l0 hl' (by omega), eqStack_self k l0 hl' (by omega)]
        · by_cases c2 : Y - X < 0
          · have e : (Y - X) % S = Y - X + S := by
              rw [← Int.add_emod_right, Int.emod_eq_of_lt (by omega) (by omega)]
            rw [if_neg c1, if_pos c2, e, if_neg (show ¬ Y - X + S = 0 by omega), wr (show -9223372036854775808 ≤ Y - X + S ∧ Y - X + S ≤ 9223372036854775807 by omega), wr (show -9223372036854775808 ≤ Y - X + S - S ∧ Y - X + S - S ≤ 9223372036854775807 by omega), show Y - X + S - S = Y - X by omega]
            simp [laws_FnExactWayTo.j0, toStack_eq k l0 hl' (by omega), eqStack_self k l0 hl' (by omega)]
          · have e : (Y - X) % S = 0 := by rw [show Y - X = 0 by omega]; simp
            rw [if_neg c1, if_neg c2, e, if_pos rfl]
            simp [laws_FnExactWayTo.j0, toStack_eq k l0 hl' (by omega), eqStack_self k l0 hl' (by omega)]
      · have hv3 : digOK l0 [a2_0, a2_1, a2_2, a2_3, a2_4, a2_5, a2_6, a2_7] = false := Bool.eq_false_iff.mpr hv2
        simp only [if_pos hv, hv3, spec_WayTo.j0, impl_WayTo.j0, Bool.not_false, if_true]
        simp [laws_FnExactWayTo.j0, toStack_eq k l0 hl' (by omega), eqStack_self k l0 hl' (by omega)]
    · simp only [if_neg hv, spec_WayTo.j0, impl_WayTo.j0, if_true]
      simp [laws_FnExactWayTo.j0, toStack_eq k l0 hl' (by omega), eqStack_self k l0 hl' (by omega)]

end Go.Proofs.Ytmmplpflbflekaa.Pure
