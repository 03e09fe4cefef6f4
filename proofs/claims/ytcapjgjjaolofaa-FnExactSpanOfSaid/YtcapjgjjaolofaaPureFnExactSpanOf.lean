/- FnExactSpanOf: the program's SpanOf and the reference's return the same, for all arguments that the statement speaks of; no further condition. -/
import Derived.Test.YtcapjgjjaolofaaPx31
import Derived.Test.YtcapjgjjaolofaaMotOk
import Derived.Test.YtcapjgjjaolofaaMotD
namespace Go.Proofs.Ytcapjgjjaolofaa.Pure
open Go.RowKit Go.Proofs.Ytcapjgjjaolofaa.P Go.Proofs.Ytcapjgjjaolofaa.Core Go.Proofs.YtcapjgjjaolofaaW.PrintWords Go.Proofs.YtcapjgjjaolofaaW.PrintLast Go.Proofs.YtcapjgjjaolofaaW.PrintMore

theorem FnExactSpanOf : laws_FnExactSpanOf.Pure := by
  intro l js hl0 _ hj0 hw
  obtain ⟨k, hk⟩ : ∃ k : Nat, 3000000 < k := ⟨3000001, by omega⟩
  refine ⟨k + 1, ?_⟩
  unfold laws_FnExactSpanOf.f
  rcases sz_room l js 1048576 (by omega) hl0 hj0 with h | ⟨r, h, hr, hl, hj⟩
  · rw [h]
    rfl
  · have hr' : ¬ r < 0 := by omega
    have e1 := toM_eq (k + 1) l js hl hj (by omega)
    have e1' := toM_eq k l js hl hj (by omega)
    have e2 := eqM_self k l (cvJ js) hl (by rw [cvJ_len]; exact hj) (by omega)
    have e3 := okM_impl l js hw
    have e4 := valid_specM (k + 1) l hl (by omega)
    simp only [h, Option.bind_some, if_neg hr', e1, spec_SpanOf.f, impl_SpanOf.f, e4, e3]
    by_cases hv : okM (validB l) l (cvJ js) = true
    · have e5 := sizeOf_specM (k + 1) l hl (by omega) (okM_valid hv)
      have e6 := P.size_eq l (by omega) (k + 1) (by omega)
      simp only [if_pos hv, e5, e6, Option.bind_some, if_true, bne_self_eq_false, laws_FnExactSpanOf.j0, Bool.false_eq_true, if_false, e1', e2]
    · simp only [if_neg hv, Option.bind_some, if_true, bne_self_eq_false, laws_FnExactSpanOf.j0, Bool.false_eq_true, if_false, e1', e2]
end Go.Proofs.Ytcapjgjjaolofaa.Pure
