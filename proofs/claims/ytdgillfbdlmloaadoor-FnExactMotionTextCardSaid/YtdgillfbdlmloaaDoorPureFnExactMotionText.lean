/- FnExactMotionText: the program's MotionText and the reference's return the same, for all arguments that the statement speaks of; no further condition. -/
import Derived.Test.YtdgillfbdlmloaaDoorPx11
import Derived.Test.YtdgillfbdlmloaaDoorTextMot
namespace Go.Proofs.YtdgillfbdlmloaaDoor.Pure
open Go.RowKit Go.Proofs.YtdgillfbdlmloaaDoor.P Go.Proofs.YtdgillfbdlmloaaDoor.Core Go.Proofs.YtdgillfbdlmloaaDoorW.PrintWords Go.Proofs.YtdgillfbdlmloaaDoorW.PrintLast Go.Proofs.YtdgillfbdlmloaaDoorW.PrintMore

theorem FnExactMotionText : laws_FnExactMotionText.Pure := by
  intro l js hl0 _ hj0 hw
  obtain ⟨k, hk⟩ : ∃ k : Nat, 3000000 < k := ⟨3000001, by omega⟩
  refine ⟨k, ?_⟩
  unfold laws_FnExactMotionText.f
  rcases sz_room l js 1048576 (by omega) hl0 hj0 with h | ⟨r, h, hr, hl, hj⟩
  · rw [h]
    rfl
  · have e1 := toM_eq k l js hl hj (by omega)
    have e2 := eqM_self k l (cvJ js) hl (by rw [cvJ_len]; exact hj) (by omega)
    obtain ⟨s, e3, e4⟩ := motionText_both k l js hl (by omega) hw
    simp [h, e1, e2, e3, e4]
end Go.Proofs.YtdgillfbdlmloaaDoor.Pure
