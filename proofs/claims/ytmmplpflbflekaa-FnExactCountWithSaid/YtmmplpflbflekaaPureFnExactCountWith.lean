/- FnExactCountWith: the program's CountWith and the reference's return the same, for all arguments that the statement speaks of; no further condition. -/
import Derived.Test.YtmmplpflbflekaaPx5
import Derived.Test.YtmmplpflbflekaaCountCore
namespace Go.Proofs.Ytmmplpflbflekaa.Pure
open Go.RowKit Go.Proofs.Ytmmplpflbflekaa.P Go.Proofs.Ytmmplpflbflekaa.Core Go.Proofs.YtmmplpflbflekaaW.PrintWords Go.Proofs.YtmmplpflbflekaaW.PrintLast Go.Proofs.YtmmplpflbflekaaW.PrintMore

theorem FnExactCountWith : laws_FnExactCountWith.Pure := by
  intro l0 a1 a2 a3 a4 _ hw x1 x2 x3 x4
  obtain ⟨k, hk⟩ : ∃ k : Nat, k = 3 * l0.length + 100 := ⟨_, rfl⟩
  refine ⟨k + 1, ?_⟩
  unfold laws_FnExactCountWith.f
  by_cases hl : (l0.length : Int) > 1048576
  · rw [if_pos hl]
  · have hl' : l0.length ≤ 1048576 := by omega
    rw [if_neg hl]
    simp only [toStack_eq (k + 1) l0 hl' (by omega), Option.bind_some]
    unfold spec_CountWith.f impl_CountWith.f impl_ValidStack.f
    simp only [ok_spec (k + 1) l0 hl' (by omega), wheel_spec l0 a3 hl', Option.bind_some, decide_eq_true_eq]
    by_cases hv : validB l0 = true
    · obtain ⟨es, hp0, hp⟩ := sizeZ_prod hv
      have hbs := validB_base hv
      simp only [if_pos hv]
      unfold impl_Stack_hasDigit.f
      simp only [wheel_impl l0 a3 hl', Option.bind_some, decide_eq_true_eq]
      by_cases hwh : 0 ≤ a3 ∧ a3 < (l0.length : Int)
      · have e1 : rd l0 a3 = l0[a3.toNat]'(by omega) := by simp [rd, List.getD, List.getElem?_eq_getElem (show a3.toNat < l0.length by omega)]
        have hr := hbs _ (List.getElem_mem (show a3.toNat < l0.length by omega))
        rw [← e1] at hr
        simp only [if_pos hwh, if_pos hwh.1, if_pos hwh.2, in_spec, within_f, Option.bind_some, decide_eq_true_eq]
        by_cases hg : 0 ≤ a4 ∧ a4 ≤ wrap64 (wrap64 (rd l0 a3) - 1)
        · unfold impl_Stack_hasValue.f
          simp only [if_pos hg, size_spec (k + 1) l0 hl' (by omega), size_eq l0 (by omega) (k + 1) (by omega), within_f, Option.bind_some, decide_eq_true_eq]
          by_cases c1 : 0 ≤ a1 ∧ a1 ≤ wrap64 (sizeZ l0 - 1)
          · by_cases c2 : 0 ≤ a2 ∧ a2 ≤ wrap64 (sizeZ l0 - 1)
            · simp only [if_pos c1, if_pos c2]
              by_cases c3 : a1 > a2
              · simp only [if_pos c3]
                simp [laws_FnExactCountWith.j0, toStack_eq k l0 hl' (by omega), eqStack_self k l0 hl' (by omega)]
              · obtain ⟨r1, s1, i1⟩ := below_same (k + 1) l0 hl' (by omega) hv (wrap64 (a2 + 1)) a3 a4 hwh.1 hwh.2
                obtain ⟨r2, s2, i2⟩ := below_same (k + 1) l0 hl' (by omega) hv a1 a3 a4 hwh.1 hwh.2
                simp only [if_neg c3, s1, s2, i1, i2, Option.bind_some]
                simp [laws_FnExactCountWith.j0, toStack_eq k l0 hl' (by omega), eqStack_self k l0 hl' (by omega)]
            · simp only [if_pos c1, if_neg c2]
              simp [laws_FnExactCountWith.j0, toStack_eq k l0 hl' (by omega), eqStack_self k l0 hl' (by omega)]
          · simp only [if_neg c1]
            simp [laws_FnExactCountWith.j0, toStack_eq k l0 hl' (by omega), eqStack_self k l0 hl' (by omega)]
        · simp only [if_neg hg]
          simp [laws_FnExactCountWith.j0, toStack_eq k l0 hl' (by omega), eqStack_self k l0 hl' (by omega)]
      · simp only [if_neg hwh, Option.bind_some, Bool.false_eq_true, if_false]
        simp [laws_FnExactCountWith.j0, toStack_eq k l0 hl' (by omega), eqStack_self k l0 hl' (by omega)]
    · simp only [if_neg hv]
      simp [laws_FnExactCountWith.j0, toStack_eq k l0 hl' (by omega), eqStack_self k l0 hl' (by omega)]

end Go.Proofs.Ytmmplpflbflekaa.Pure
