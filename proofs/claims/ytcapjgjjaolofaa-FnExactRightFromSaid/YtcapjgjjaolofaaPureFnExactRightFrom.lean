/- FnExactRightFrom: the program's RightFrom and the reference's return the same, for all arguments that the statement speaks of; no further condition. -/
import Derived.Test.YtcapjgjjaolofaaPx26
import Derived.Test.YtcapjgjjaolofaaRightCore
import Derived.Test.YtcapjgjjaolofaaPartsA
import Derived.Test.YtcapjgjjaolofaaDigF
namespace Go.Proofs.Ytcapjgjjaolofaa.Pure
open Go.RowKit Go.Proofs.Ytcapjgjjaolofaa.P Go.Proofs.Ytcapjgjjaolofaa.Core Go.Proofs.YtcapjgjjaolofaaW.PrintWords Go.Proofs.YtcapjgjjaolofaaW.PrintLast Go.Proofs.YtcapjgjjaolofaaW.PrintMore

set_option linter.unusedSimpArgs false
theorem FnExactRightFrom : laws_FnExactRightFrom.Pure := by
  intro l js a1_0 a1_1 a1_2 a1_3 a1_4 a1_5 a1_6 a1_7 hl0 _ hj0 hw _ _ _ _ _ _ _ _
  obtain ⟨k, hk⟩ : ∃ k : Nat, 3000000 < k := ⟨3000001, by omega⟩
  refine ⟨k + 1, ?_⟩
  unfold laws_FnExactRightFrom.f
  rcases sz_room l js 1048576 (by omega) hl0 hj0 with h | ⟨r, h, hr, hl, hj⟩
  · rw [h]
    rfl
  · have hr' : ¬ r < 0 := by omega
    have e1 := toM_eq (k + 1) l js hl hj (by omega)
    have e1' := toM_eq k l js hl hj (by omega)
    have e2 := eqM_self k l (cvJ js) hl (by rw [cvJ_len]; exact hj) (by omega)
    have e3 := okM_impl l js hw
    have e4 := valid_specM (k + 1) l hl (by omega)
    have fin : ∀ z : Int × Int × Int × Int × Int × Int × Int × Int × Int, ((laws_eqDigits.f z.1 z.2.1 z.2.2.1 z.2.2.2.1 z.2.2.2.2.1 z.2.2.2.2.2.1 z.2.2.2.2.2.2.1 z.2.2.2.2.2.2.2.1 z.1 z.2.1 z.2.2.1 z.2.2.2.1 z.2.2.2.2.1 z.2.2.2.2.2.1 z.2.2.2.2.2.2.1 z.2.2.2.2.2.2.2.1).bind fun t => if t = true then laws_FnExactRightFrom.j0 (k + 1) (z.2.2.2.2.2.2.2.2 != z.2.2.2.2.2.2.2.2) l js l (cvJ js) else laws_FnExactRightFrom.j0 (k + 1) true l js l (cvJ js)) = some true := by
      intro z
      unfold laws_eqDigits.f
      simp [laws_FnExactRightFrom.j0, e1', e2]
    simp only [h, Option.bind_some, if_neg hr', e1, laws_toParts.f, spec_RightFrom.f, impl_RightFrom.f, e4, e3, givB_same]
    by_cases hv : okM (validB l) l (cvJ js) = true
    · have h8 := validB_len (okM_valid hv)
      have hb := validB_base (okM_valid hv)
      obtain ⟨hjl, hjo⟩ := okM_joints hv hl
      simp only [if_pos hv]
      by_cases hg : givB zeroI l [a1_0, a1_1, a1_2, a1_3, a1_4, a1_5, a1_6, a1_7] = true
      · have h9 : (l.length ≤ 8 ∧ 1 ≤ l.length ∧ (cvJ js).length + 1 = l.length) ∧ (∀ b ∈ l, 2 ≤ b ∧ b ≤ 100) ∧ (∀ j ∈ cvJ js, ¬ wrap64 (1000 - wrap64 j.f1) = 0) := ⟨⟨h8.2, h8.1, hjl⟩, hb, fun j hj => by
          have := hjo j hj
          rw [wr (by omega)]
          omega⟩
        have hs := (rg_same l (cvJ js) [a1_0, a1_1, a1_2, a1_3, a1_4, a1_5, a1_6, a1_7] (okM_valid hv) hjl hjo hg rfl h8.2 (l.length - 1) (by omega)).1
        simp only [if_pos hg, if_pos h9, hs, Option.bind_some]
        exact fin _
      · simp only [if_neg hg, Option.bind_some]
        exact fin _
    · simp only [if_neg hv, Option.bind_some]
      exact fin _
end Go.Proofs.Ytcapjgjjaolofaa.Pure
