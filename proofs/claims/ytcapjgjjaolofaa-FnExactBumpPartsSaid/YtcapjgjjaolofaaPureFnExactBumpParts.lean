/- FnExactBumpParts: the program's BumpParts and the reference's return the same, for all arguments that the statement speaks of; no further condition. -/
import Derived.Test.YtcapjgjjaolofaaPx28
import Derived.Test.YtcapjgjjaolofaaBumpCore
import Derived.Test.YtcapjgjjaolofaaPartsA
namespace Go.Proofs.Ytcapjgjjaolofaa.Pure
open Go.RowKit Go.Proofs.Ytcapjgjjaolofaa.P Go.Proofs.Ytcapjgjjaolofaa.Core Go.Proofs.YtcapjgjjaolofaaW.PrintWords Go.Proofs.YtcapjgjjaolofaaW.PrintLast Go.Proofs.YtcapjgjjaolofaaW.PrintMore

set_option linter.unusedSimpArgs false
theorem FnExactBumpParts : laws_FnExactBumpParts.Pure := by
  intro l js a1_0 a1_1 a1_2 a1_3 a1_4 a1_5 a1_6 a1_7 x n hl0 _ hj0 hw _ _ _ _ _ _ _ _ _ _
  obtain ⟨k, hk⟩ : ∃ k : Nat, 3000000 < k := ⟨3000001, by omega⟩
  refine ⟨k + 1, ?_⟩
  unfold laws_FnExactBumpParts.f
  rcases sz_room l js 1048576 (by omega) hl0 hj0 with h | ⟨r, h, hr, hl, hj⟩
  · rw [h]
    rfl
  · have hr' : ¬ r < 0 := by omega
    have e1 := toM_eq (k + 1) l js hl hj (by omega)
    have e1' := toM_eq k l js hl hj (by omega)
    have e2 := eqM_self k l (cvJ js) hl (by rw [cvJ_len]; exact hj) (by omega)
    have e3 := okM_impl l js hw
    have e4 := valid_specM (k + 1) l hl (by omega)
    have fin : ∀ z : Int × Int × Int × Int × Int × Int × Int × Int × Int, ((laws_eqParts.f z.1 z.2.1 z.2.2.1 z.2.2.2.1 z.2.2.2.2.1 z.2.2.2.2.2.1 z.2.2.2.2.2.2.1 z.2.2.2.2.2.2.2.1 z.1 z.2.1 z.2.2.1 z.2.2.2.1 z.2.2.2.2.1 z.2.2.2.2.2.1 z.2.2.2.2.2.2.1 z.2.2.2.2.2.2.2.1).bind fun t => if t = true then laws_FnExactBumpParts.j0 (k + 1) (z.2.2.2.2.2.2.2.2 != z.2.2.2.2.2.2.2.2) l js l (cvJ js) else laws_FnExactBumpParts.j0 (k + 1) true l js l (cvJ js)) = some true := by
      intro z
      unfold laws_eqParts.f
      simp [laws_FnExactBumpParts.j0, e1', e2]
    simp only [h, Option.bind_some, if_neg hr', e1, laws_toParts.f, spec_BumpParts.f, impl_BumpParts.f, e4, e3, wheel_implB l x hl, givB_same]
    by_cases hv : okM (validB l) l (cvJ js) = true
    · have h8 := (validB_len (okM_valid hv)).2
      simp only [if_pos hv]
      by_cases hg : givB zeroI l [a1_0, a1_1, a1_2, a1_3, a1_4, a1_5, a1_6, a1_7] = true
      · simp only [if_pos hg, Option.bind_some]
        have hd : (decide (0 ≤ x ∧ x ≤ wrap64 ((l.length : Int) - 1)) && decide (-1000 ≤ n ∧ n ≤ 1000)) = (decide (0 ≤ x ∧ x < (l.length : Int)) && decide (-1000 ≤ n ∧ n ≤ 1000)) := by
          rw [wr (by omega)]
          congr 1
          exact decide_eq_decide.mpr ⟨fun h => ⟨h.1, by omega⟩, fun h => ⟨h.1, by omega⟩⟩
        rw [hd]
        by_cases hx : (decide (0 ≤ x ∧ x < (l.length : Int)) && decide (-1000 ≤ n ∧ n ≤ 1000)) = true
        · have hx' := hx
          rw [Bool.and_eq_true, decide_eq_true_eq, decide_eq_true_eq] at hx'
          obtain ⟨⟨x0, x1⟩, hn⟩ := hx'
          obtain ⟨f1, q2, f2⟩ := bump_both l [a1_0, a1_1, a1_2, a1_3, a1_4, a1_5, a1_6, a1_7] x n (okM_valid hv) hg x0 x1 (by show x < 8; omega) hn
          have h9 : l.length ≤ 8 ∧ 0 ≤ x ∧ x < (l.length : Int) := ⟨h8, x0, x1⟩
          simp only [if_pos hx, if_pos h8, if_neg f1, if_pos h9, f2, Option.bind_some]
          exact fin _
        · simp only [if_neg hx, Option.bind_some]
          exact fin _
      · simp only [if_neg hg, Option.bind_some]
        exact fin _
    · simp only [if_neg hv, Option.bind_some]
      exact fin _
end Go.Proofs.Ytcapjgjjaolofaa.Pure
