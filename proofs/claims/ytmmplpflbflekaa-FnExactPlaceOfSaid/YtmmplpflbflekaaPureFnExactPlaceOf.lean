/- FnExactPlaceOf: the program's PlaceOf and the reference's return the same, for all arguments that the statement speaks of; no further condition. -/
import Derived.Test.YtmmplpflbflekaaPx16
import Derived.Test.YtmmplpflbflekaaStackPlace
namespace Go.Proofs.Ytmmplpflbflekaa.Pure
open Go.RowKit Go.Proofs.Ytmmplpflbflekaa.P Go.Proofs.Ytmmplpflbflekaa.Core Go.Proofs.YtmmplpflbflekaaW.PrintWords Go.Proofs.YtmmplpflbflekaaW.PrintLast Go.Proofs.YtmmplpflbflekaaW.PrintMore

theorem FnExactPlaceOf : laws_FnExactPlaceOf.Pure := by
  intro l0 a1 _ hw _
  obtain ⟨k, hk⟩ : ∃ k : Nat, k = 3 * l0.length + 100 := ⟨_, rfl⟩
  refine ⟨k + 1, ?_⟩
  unfold laws_FnExactPlaceOf.f
  by_cases hl : (l0.length : Int) > 1048576
  · rw [if_pos hl]
  · have hl' : l0.length ≤ 1048576 := by omega
    rw [if_neg hl]
    simp only [toStack_eq (k + 1) l0 hl' (by omega), Option.bind_some]
    unfold spec_PlaceOf.f impl_PlaceOf.f impl_ValidStack.f
    simp only [ok_spec (k + 1) l0 hl' (by omega), wheel_spec l0 a1 hl', wheel_impl l0 a1 hl', Option.bind_some, decide_eq_true_eq]
    by_cases hv : validB l0 = true
    · rw [if_pos hv, if_pos hv]
      by_cases hw : 0 ≤ a1 ∧ a1 < (l0.length : Int)
      · rw [if_pos hw, if_pos hw, place_spec (k + 1) l0 a1 hl' (by omega) (by omega) (by omega), place_impl (k + 1) l0 a1 hl' (by omega) (by omega) (by omega)]
        simp [laws_FnExactPlaceOf.j0, toStack_eq k l0 hl' (by omega), eqStack_self k l0 hl' (by omega)]
      · rw [if_neg hw, if_neg hw]
        simp [laws_FnExactPlaceOf.j0, toStack_eq k l0 hl' (by omega), eqStack_self k l0 hl' (by omega)]
    · rw [if_neg hv, if_neg hv]
      simp [laws_FnExactPlaceOf.j0, toStack_eq k l0 hl' (by omega), eqStack_self k l0 hl' (by omega)]

end Go.Proofs.Ytmmplpflbflekaa.Pure
