/- FnExactStackText: the program's StackText and the reference's return the same, for all arguments that the statement speaks of; no further condition. -/
import Derived.Test.YtdgillfbdlmloaaDoorPx12
import Derived.Test.YtdgillfbdlmloaaDoorTextCore
namespace Go.Proofs.YtdgillfbdlmloaaDoor.Pure
open Go.RowKit Go.Proofs.YtdgillfbdlmloaaDoor.P Go.Proofs.YtdgillfbdlmloaaDoor.Core Go.Proofs.YtdgillfbdlmloaaDoorW.PrintWords Go.Proofs.YtdgillfbdlmloaaDoorW.PrintLast Go.Proofs.YtdgillfbdlmloaaDoorW.PrintMore

theorem FnExactStackText : laws_FnExactStackText.Pure := by
  intro l0 _ _
  obtain ⟨k, hk⟩ : ∃ k : Nat, k = 3 * l0.length + 2000 := ⟨_, rfl⟩
  refine ⟨k, ?_⟩
  unfold laws_FnExactStackText.f
  by_cases hl : (l0.length : Int) > 1048576
  · rw [if_pos hl]
  · have hl' : l0.length ≤ 1048576 := by omega
    obtain ⟨r, h1, h2⟩ := stackText_both k l0 hl' (by omega)
    rw [if_neg hl]
    simp [toStack_eq k l0 hl' (by omega), h1, h2, eqStack_self k l0 hl' (by omega)]
end Go.Proofs.YtdgillfbdlmloaaDoor.Pure
