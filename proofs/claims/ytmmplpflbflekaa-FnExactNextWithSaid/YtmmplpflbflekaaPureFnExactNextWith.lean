/- FnExactNextWith: the program's NextWith and the reference's return the same, for all arguments that the statement speaks of; no further condition. -/
import Derived.Test.YtmmplpflbflekaaPx27
import Derived.Test.YtmmplpflbflekaaNextCore
namespace Go.Proofs.Ytmmplpflbflekaa.Pure
open Go.RowKit Go.Proofs.Ytmmplpflbflekaa.P Go.Proofs.Ytmmplpflbflekaa.Core Go.Proofs.YtmmplpflbflekaaW.PrintWords Go.Proofs.YtmmplpflbflekaaW.PrintLast Go.Proofs.YtmmplpflbflekaaW.PrintMore

theorem FnExactNextWith : laws_FnExactNextWith.Pure := by
  intro l0 a1_0 a1_1 a1_2 a1_3 a1_4 a1_5 a1_6 a1_7 x g _ hw w0 w1 w2 w3 w4 w5 w6 w7 _ _
  obtain ⟨k, hk⟩ : ∃ k : Nat, k = 3 * l0.length + 100 := ⟨_, rfl⟩
  refine ⟨k + 1, ?_⟩
  unfold laws_FnExactNextWith.f
  by_cases hl : (l0.length : Int) > 1048576
  · rw [if_pos hl]
  · have hl' : l0.length ≤ 1048576 := by omega
    rw [if_neg hl]
    obtain ⟨r, h1, h2⟩ := next_both (k + 1) l0 hl' (by omega) a1_0 a1_1 a1_2 a1_3 a1_4 a1_5 a1_6 a1_7 (bytes8 w0 w1 w2 w3 w4 w5 w6 w7) x g
    unfold laws_toDigits.f
    simp only [toStack_eq (k + 1) l0 hl' (by omega), Option.bind_some, h1, h2]
    simp [laws_FnExactNextWith.j0, toStack_eq k l0 hl' (by omega), eqStack_self k l0 hl' (by omega)]
end Go.Proofs.Ytmmplpflbflekaa.Pure
