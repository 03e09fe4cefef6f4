/- FnExactMovesOf: the program's MovesOf and the reference's return the same, for all arguments that the statement speaks of; no further condition. -/
import Derived.Test.YtcapjgjjaolofaaPx27
import Derived.Test.YtcapjgjjaolofaaMovCore
import Derived.Test.YtcapjgjjaolofaaMovE
import Derived.Test.YtcapjgjjaolofaaDigF
namespace Go.Proofs.Ytcapjgjjaolofaa.Pure
open Go.RowKit Go.Proofs.Ytcapjgjjaolofaa.P Go.Proofs.Ytcapjgjjaolofaa.Core Go.Proofs.YtcapjgjjaolofaaW.PrintWords Go.Proofs.YtcapjgjjaolofaaW.PrintLast Go.Proofs.YtcapjgjjaolofaaW.PrintMore

theorem FnExactMovesOf : laws_FnExactMovesOf.Pure := by
  intro l0 a1_0 a1_1 a1_2 a1_3 a1_4 a1_5 a1_6 a1_7 n _ hw w0 w1 w2 w3 w4 w5 w6 w7 _
  obtain ⟨k, hk⟩ : ∃ k : Nat, k = 3 * l0.length + 100 := ⟨_, rfl⟩
  refine ⟨k + 1, ?_⟩
  unfold laws_FnExactMovesOf.f
  by_cases hl : (l0.length : Int) > 1048576
  · rw [if_pos hl]
  · have hl' : l0.length ≤ 1048576 := by omega
    rw [if_neg hl]
    simp only [toStack_eq (k + 1) l0 hl' (by omega), Option.bind_some]
    have hb := bytes8 w0 w1 w2 w3 w4 w5 w6 w7
    unfold laws_toDigits.f spec_MovesOf.f impl_MovesOf.f
    simp only [digits_spec (k + 1) l0 hl' (by omega) a1_0 a1_1 a1_2 a1_3 a1_4 a1_5 a1_6 a1_7 hb, digits_impl l0 a1_0 a1_1 a1_2 a1_3 a1_4 a1_5 a1_6 a1_7, count_spec, within_f, Option.bind_some]
    have fin : ∀ z : Int × Int × Int × Int × Int × Int × Int × Int × Int, ((laws_eqInt64A8.f z.1 z.2.1 z.2.2.1 z.2.2.2.1 z.2.2.2.2.1 z.2.2.2.2.2.1 z.2.2.2.2.2.2.1 z.2.2.2.2.2.2.2.1 z.1 z.2.1 z.2.2.1 z.2.2.2.1 z.2.2.2.2.1 z.2.2.2.2.2.1 z.2.2.2.2.2.2.1 z.2.2.2.2.2.2.2.1).bind fun t => if t = true then laws_FnExactMovesOf.j0 (k + 1) l0 l0 (z.2.2.2.2.2.2.2.2 != z.2.2.2.2.2.2.2.2) else laws_FnExactMovesOf.j0 (k + 1) l0 l0 true) = some true := by
      intro z
      unfold laws_eqInt64A8.f
      simp [laws_FnExactMovesOf.j0, toStack_eq k l0 hl' (by omega), eqStack_self k l0 hl' (by omega)]
    by_cases hv : digOK l0 [a1_0, a1_1, a1_2, a1_3, a1_4, a1_5, a1_6, a1_7] = true
    · have h8 := (validB_len (digOK_valid hv)).2
      have hz := valZ_eq hv hb rfl
      have hp := sizeZ_prod (digOK_valid hv)
      simp only [if_pos hv]
      by_cases hn : decide (-1000000000000 ≤ n ∧ n ≤ 1000000000000) = true
      · have hn' := of_decide_eq_true hn
        obtain ⟨o, o1, o2⟩ := mv_same (k + 1) l0 (valZ l0 [a1_0, a1_1, a1_2, a1_3, a1_4, a1_5, a1_6, a1_7]) n hl' (by omega) (validB_base (digOK_valid hv)) (by omega) hn' l0.length (Nat.le_refl _)
        simp only [if_pos hn, if_pos h8, o1, o2, Option.bind_some]
        exact fin _
      · simp only [if_neg hn, Option.bind_some]
        exact fin _
    · simp only [if_neg hv, Option.bind_some]
      exact fin _

end Go.Proofs.Ytcapjgjjaolofaa.Pure
