/- FnExactSizeOf: the program's SizeOf and the reference's return the same, for all arguments that the statement speaks of; no further condition. -/
import Derived.Test.YtmmplpflbflekaaPx14
import Derived.Test.YtmmplpflbflekaaStackCore
namespace Go.Proofs.Ytmmplpflbflekaa.Pure
open Go.RowKit Go.Proofs.Ytmmplpflbflekaa.P Go.Proofs.Ytmmplpflbflekaa.Core Go.Proofs.YtmmplpflbflekaaW.PrintWords Go.Proofs.YtmmplpflbflekaaW.PrintLast Go.Proofs.YtmmplpflbflekaaW.PrintMore

theorem FnExactSizeOf : laws_FnExactSizeOf.Pure := by
  intro l0 _ hw 
  obtain ⟨k, hk⟩ : ∃ k : Nat, k = 3 * l0.length + 100 := ⟨_, rfl⟩
  refine ⟨k + 1, ?_⟩
  unfold laws_FnExactSizeOf.f
  by_cases hl : (l0.length : Int) > 1048576
  · rw [if_pos hl]
  · have hl' : l0.length ≤ 1048576 := by omega
    rw [if_neg hl]
    simp only [toStack_eq (k + 1) l0 hl' (by omega), Option.bind_some]
    unfold spec_SizeOf.f impl_SizeOf.f impl_ValidStack.f
    simp only [ok_spec (k + 1) l0 hl' (by omega), Option.bind_some]
    by_cases hv : validB l0 = true
    · rw [if_pos hv, if_pos hv, size_spec (k + 1) l0 hl' (by omega), size_eq l0 (by omega) (k + 1) (by omega)]
      simp [laws_FnExactSizeOf.j0, toStack_eq k l0 hl' (by omega), eqStack_self k l0 hl' (by omega)]
    · rw [if_neg hv, if_neg hv]
      simp [laws_FnExactSizeOf.j0, toStack_eq k l0 hl' (by omega), eqStack_self k l0 hl' (by omega)]

end Go.Proofs.Ytmmplpflbflekaa.Pure
