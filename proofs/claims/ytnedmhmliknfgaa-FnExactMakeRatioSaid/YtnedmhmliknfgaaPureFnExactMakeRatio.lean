/- FnExactMakeRatio: the program's MakeRatio and the reference's return the same, for all arguments that the statement speaks of; no further condition. -/
import Derived.Test.YtnedmhmliknfgaaPx12
import Derived.Test.YtnedmhmliknfgaaMade
namespace Go.Proofs.Ytnedmhmliknfgaa.Pure
open Go.RowKit Go.Proofs.Ytnedmhmliknfgaa.P Go.Proofs.Ytnedmhmliknfgaa.Core Go.Proofs.YtnedmhmliknfgaaW.PrintWords Go.Proofs.YtnedmhmliknfgaaW.PrintLast Go.Proofs.YtnedmhmliknfgaaW.PrintMore

theorem FnExactMakeRatio : laws_FnExactMakeRatio.Pure := by
  intro p q h1 h2
  obtain ⟨_, p2⟩ := wf64 h1
  obtain ⟨_, q2⟩ := wf64 h2
  obtain ⟨k, hk⟩ : ∃ k : Nat, k = q.toNat + 1000000001 := ⟨_, rfl⟩
  refine ⟨k + 1, ?_⟩
  unfold laws_FnExactMakeRatio.f spec_MakeRatio.f impl_MakeRatio.f
  by_cases hp : p < 1
  · rw [if_pos hp, if_pos hp]
    simp [impl_MakeRatio.j0, eqRatio_self]
  · rw [if_neg hp, if_neg hp]
    by_cases hq : q < 1
    · rw [if_pos hq]
      simp [impl_MakeRatio.j0, hq, eqRatio_self]
    · rw [if_neg hq]
      simp only [impl_MakeRatio.j0, hq, decide_false, Bool.false_eq_true, if_false]
      rw [made_eq (k + 1) p q (by omega) (by omega) p2 q2 (by omega) (by omega), reduced_eq k p q (by omega) (by omega) p2 q2 (by omega)]
      simp only [Option.bind_some]
      rw [valid_eq k _ _ (by omega)]
      split <;> simp [eqRatio_self]

end Go.Proofs.Ytnedmhmliknfgaa.Pure
