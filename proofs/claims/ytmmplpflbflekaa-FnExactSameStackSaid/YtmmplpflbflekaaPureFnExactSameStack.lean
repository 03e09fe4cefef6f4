/- FnExactSameStack: the program's SameStack and the reference's return the same, for all arguments that the statement speaks of; no further condition. -/
import Derived.Test.YtmmplpflbflekaaPx1
import Derived.Test.YtmmplpflbflekaaSameCore
namespace Go.Proofs.Ytmmplpflbflekaa.Pure
open Go.RowKit Go.Proofs.Ytmmplpflbflekaa.P Go.Proofs.Ytmmplpflbflekaa.Core Go.Proofs.YtmmplpflbflekaaW.PrintWords Go.Proofs.YtmmplpflbflekaaW.PrintLast Go.Proofs.YtmmplpflbflekaaW.PrintMore

theorem FnExactSameStack : laws_FnExactSameStack.Pure := by
  intro l0 l1 _ _ _ _
  obtain ⟨k, hk⟩ : ∃ k : Nat, k = l0.length + l1.length + 100 := ⟨_, rfl⟩
  refine ⟨k, ?_⟩
  unfold laws_FnExactSameStack.f
  by_cases hl : (l0.length : Int) > 1048576
  · rw [if_pos hl]
  · by_cases hm : (l1.length : Int) > 1048576
    · rw [if_neg hl, if_pos hm]
    · have hl' : l0.length ≤ 1048576 := by omega
      have hm' : l1.length ≤ 1048576 := by omega
      unfold spec_SameStack.f impl_SameStack.f
      simp only [if_neg hl, if_neg hm, toStack_eq k l0 hl' (by omega), toStack_eq k l1 hm' (by omega), Option.bind_some, same_spec k l0 l1 hl' (by omega), same_impl k l0 l1 hl' (by omega), eqStack_self k l0 hl' (by omega), eqStack_self k l1 hm' (by omega)]
      simp

end Go.Proofs.Ytmmplpflbflekaa.Pure
