/- FnExactComplement: the program's Complement and the reference's return the same, for all arguments that the statement speaks of; no further condition. -/
import Derived.Test.YtmmplpflbflekaaPx26
import Derived.Test.YtmmplpflbflekaaDigCore
import Derived.Test.YtmmplpflbflekaaGivH
namespace Go.Proofs.Ytmmplpflbflekaa.Pure
open Go.RowKit Go.Proofs.Ytmmplpflbflekaa.P Go.Proofs.Ytmmplpflbflekaa.Core Go.Proofs.YtmmplpflbflekaaW.PrintWords Go.Proofs.YtmmplpflbflekaaW.PrintLast Go.Proofs.YtmmplpflbflekaaW.PrintMore

theorem FnExactComplement : laws_FnExactComplement.Pure := by
  intro l0 a1_0 a1_1 a1_2 a1_3 a1_4 a1_5 a1_6 a1_7 _ hw w0 w1 w2 w3 w4 w5 w6 w7
  obtain ⟨k, hk⟩ : ∃ k : Nat, k = 3 * l0.length + 100 := ⟨_, rfl⟩
  refine ⟨k + 1, ?_⟩
  unfold laws_FnExactComplement.f
  by_cases hl : (l0.length : Int) > 1048576
  · rw [if_pos hl]
  · have hl' : l0.length ≤ 1048576 := by omega
    rw [if_neg hl]
    simp only [toStack_eq (k + 1) l0 hl' (by omega), Option.bind_some]
    have hb := bytes8 w0 w1 w2 w3 w4 w5 w6 w7
    unfold laws_toDigits.f spec_Complement.f impl_Complement.f
    simp only [digits_spec (k + 1) l0 hl' (by omega) a1_0 a1_1 a1_2 a1_3 a1_4 a1_5 a1_6 a1_7 hb, digits_impl l0 a1_0 a1_1 a1_2 a1_3 a1_4 a1_5 a1_6 a1_7, Option.bind_some]
    have fin : ∀ z : Int × Int × Int × Int × Int × Int × Int × Int × Int, ((laws_eqDigits.f z.1 z.2.1 z.2.2.1 z.2.2.2.1 z.2.2.2.2.1 z.2.2.2.2.2.1 z.2.2.2.2.2.2.1 z.2.2.2.2.2.2.2.1 z.1 z.2.1 z.2.2.1 z.2.2.2.1 z.2.2.2.2.1 z.2.2.2.2.2.1 z.2.2.2.2.2.2.1 z.2.2.2.2.2.2.2.1).bind fun t => if t = true then laws_FnExactComplement.j0 (k + 1) l0 l0 (z.2.2.2.2.2.2.2.2 != z.2.2.2.2.2.2.2.2) else laws_FnExactComplement.j0 (k + 1) l0 l0 true) = some true := by
      intro z
      unfold laws_eqDigits.f
      simp [laws_FnExactComplement.j0, toStack_eq k l0 hl' (by omega), eqStack_self k l0 hl' (by omega)]
    by_cases hv : digOK l0 [a1_0, a1_1, a1_2, a1_3, a1_4, a1_5, a1_6, a1_7] = true
    · have h8 := (validB_len (digOK_valid hv)).2
      simp only [if_pos hv, if_pos h8, Option.bind_some]
      exact fin _
    · simp only [if_neg hv, Option.bind_some]
      exact fin (0, 0, 0, 0, 0, 0, 0, 0, 1)

end Go.Proofs.Ytmmplpflbflekaa.Pure
