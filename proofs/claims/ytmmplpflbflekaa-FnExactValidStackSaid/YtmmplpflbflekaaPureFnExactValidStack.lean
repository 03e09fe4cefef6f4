/- FnExactValidStack: the program's ValidStack and the reference's return the same, for all arguments that the statement speaks of; no further condition. -/
import Derived.Test.YtmmplpflbflekaaPx13
import Derived.Test.YtmmplpflbflekaaStackCore
namespace Go.Proofs.Ytmmplpflbflekaa.Pure
open Go.RowKit Go.Proofs.Ytmmplpflbflekaa.P Go.Proofs.Ytmmplpflbflekaa.Core Go.Proofs.YtmmplpflbflekaaW.PrintWords Go.Proofs.YtmmplpflbflekaaW.PrintLast Go.Proofs.YtmmplpflbflekaaW.PrintMore

theorem FnExactValidStack : laws_FnExactValidStack.Pure := by
  intro l0 _ hw 
  obtain ⟨k, hk⟩ : ∃ k : Nat, k = 3 * l0.length + 100 := ⟨_, rfl⟩
  refine ⟨k + 1, ?_⟩
  unfold laws_FnExactValidStack.f
  by_cases hl : (l0.length : Int) > 1048576
  · rw [if_pos hl]
  · have hl' : l0.length ≤ 1048576 := by omega
    rw [if_neg hl]
    simp only [toStack_eq (k + 1) l0 hl' (by omega), Option.bind_some]
    unfold spec_ValidStack.f impl_ValidStack.f
    simp only [ok_spec (k + 1) l0 hl' (by omega), eqStack_self (k + 1) l0 hl' (by omega), Option.bind_some]
    simp

end Go.Proofs.Ytmmplpflbflekaa.Pure
