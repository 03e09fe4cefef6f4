/- FnExactValidMotion: the program's ValidMotion and the reference's return the same, for all arguments that the statement speaks of; no further condition. -/
import Derived.Test.YtcapjgjjaolofaaPx30
import Derived.Test.YtcapjgjjaolofaaMotOk
namespace Go.Proofs.Ytcapjgjjaolofaa.Pure
open Go.RowKit Go.Proofs.Ytcapjgjjaolofaa.P Go.Proofs.Ytcapjgjjaolofaa.Core Go.Proofs.YtcapjgjjaolofaaW.PrintWords Go.Proofs.YtcapjgjjaolofaaW.PrintLast Go.Proofs.YtcapjgjjaolofaaW.PrintMore

theorem FnExactValidMotion : laws_FnExactValidMotion.Pure := by
  intro l js hl0 _ hj0 hw
  obtain ⟨k, hk⟩ : ∃ k : Nat, 3000000 < k := ⟨3000001, by omega⟩
  refine ⟨k, ?_⟩
  unfold laws_FnExactValidMotion.f
  rcases sz_room l js 1048576 (by omega) hl0 hj0 with h | ⟨r, h, hr, hl, hj⟩
  · rw [h]
    rfl
  · have hr' : ¬ r < 0 := by omega
    have e1 := toM_eq k l js hl hj (by omega)
    have e2 := eqM_self k l (cvJ js) hl (by rw [cvJ_len]; exact hj) (by omega)
    have e3 := okM_impl l js hw
    have e4 := valid_specM k l hl (by omega)
    simp only [h, Option.bind_some, if_neg hr', e1, spec_ValidMotion.f, e4, e3, bne_self_eq_false, Bool.false_eq_true, if_false, e2, if_true]
end Go.Proofs.Ytcapjgjjaolofaa.Pure
