/- FnExactTurnBy: the program's TurnBy and the reference's return the same, for all arguments that the statement speaks of; no further condition. -/
import Derived.Test.YtcapjgjjaolofaaPx32
import Derived.Test.YtcapjgjjaolofaaMotOk
import Derived.Test.YtcapjgjjaolofaaMotD
import Derived.Test.YtcapjgjjaolofaaTurnCore
namespace Go.Proofs.Ytcapjgjjaolofaa.Pure
open Go.RowKit Go.Proofs.Ytcapjgjjaolofaa.P Go.Proofs.Ytcapjgjjaolofaa.Core Go.Proofs.YtcapjgjjaolofaaW.PrintWords Go.Proofs.YtcapjgjjaolofaaW.PrintLast Go.Proofs.YtcapjgjjaolofaaW.PrintMore

theorem FnExactTurnBy : laws_FnExactTurnBy.Pure := by
  intro l js t n hl0 _ hj0 hw _ _
  obtain ⟨k, hk⟩ : ∃ k : Nat, 3000000 < k := ⟨3000001, by omega⟩
  refine ⟨k + 1, ?_⟩
  unfold laws_FnExactTurnBy.f
  rcases sz_room l js 1048576 (by omega) hl0 hj0 with h | ⟨r, h, hr, hl, hj⟩
  · rw [h]
    rfl
  · have hr' : ¬ r < 0 := by omega
    have e1 := toM_eq (k + 1) l js hl hj (by omega)
    have e1' := toM_eq k l js hl hj (by omega)
    have e2 := eqM_self k l (cvJ js) hl (by rw [cvJ_len]; exact hj) (by omega)
    have e3 := okM_impl l js hw
    have e4 := valid_specM (k + 1) l hl (by omega)
    simp only [h, Option.bind_some, if_neg hr', e1, spec_TurnBy.f, impl_TurnBy.f, e4, e3]
    by_cases hv : okM (validB l) l (cvJ js) = true
    · have e5 := sizeOf_specM (k + 1) l hl (by omega) (okM_valid hv)
      have e6 := P.size_eq l (by omega) (k + 1) (by omega)
      have hz := sizeZ_prod (okM_valid hv)
      have hs : 1 ≤ sizeZ l ∧ sizeZ l ≤ 1000000000000 := by omega
      have hm : wrap64 (sizeZ l * 1000) = sizeZ l * 1000 := wr (by omega)
      simp only [if_pos hv, e5, e6, Option.bind_some, hm]
      by_cases h1 : decide (0 ≤ t ∧ t ≤ wrap64 (sizeZ l * 1000 - 1)) = true
      · by_cases h2 : decide (-1000000000000000 ≤ n ∧ n ≤ 1000000000000000) = true
        · have g1 := of_decide_eq_true h1
          have g2 := of_decide_eq_true h2
          rw [wr (n := sizeZ l * 1000 - 1) (by omega)] at g1
          obtain ⟨f1, f2, f3⟩ := turn_both (t + n) (sizeZ l * 1000) (by omega) (by omega) (by omega) (by omega)
          have hw2 : wrap64 (t + n) = t + n := wr (by omega)
          simp only [if_pos h1, if_pos h2, hw2, f1, f2, f3, Option.bind_some, if_true, bne_self_eq_false, laws_FnExactTurnBy.j0, Bool.false_eq_true, if_false, e1', e2]
        · simp only [if_pos h1, if_neg h2, Option.bind_some, if_true, bne_self_eq_false, laws_FnExactTurnBy.j0, Bool.false_eq_true, if_false, e1', e2]
      · simp only [if_neg h1, Option.bind_some, if_true, bne_self_eq_false, laws_FnExactTurnBy.j0, Bool.false_eq_true, if_false, e1', e2]
    · simp only [if_neg hv, Option.bind_some, if_true, bne_self_eq_false, laws_FnExactTurnBy.j0, Bool.false_eq_true, if_false, e1', e2]
end Go.Proofs.Ytcapjgjjaolofaa.Pure
