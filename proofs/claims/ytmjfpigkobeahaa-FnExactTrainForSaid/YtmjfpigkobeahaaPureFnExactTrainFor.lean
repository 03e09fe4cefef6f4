/- FnExactTrainFor: the program's TrainFor and the reference's return the same, for all arguments that the statement speaks of; no further condition. -/
import Derived.Test.YtmjfpigkobeahaaPx36
import Derived.Test.YtmjfpigkobeahaaTrainImpl
import Derived.Test.YtmjfpigkobeahaaPairMarks
namespace Go.Proofs.Ytmjfpigkobeahaa.Pure
open Go.RowKit Go.Proofs.Ytmjfpigkobeahaa.P Go.Proofs.Ytmjfpigkobeahaa.Core Go.Proofs.YtmjfpigkobeahaaW.PrintWords Go.Proofs.YtmjfpigkobeahaaW.PrintLast Go.Proofs.YtmjfpigkobeahaaW.PrintMore

theorem FnExactTrainFor : laws_FnExactTrainFor.Pure := by
  intro P Q _ _
  obtain ⟨k, hk⟩ : ∃ k : Nat, 1000100010 < k := ⟨1000100011, by omega⟩
  refine ⟨k + 2, ?_⟩
  obtain ⟨r, c, h1, h2, hr⟩ := train_both (k + 2) P Q (by omega)
  obtain ⟨r', c', g1, g2, _⟩ := train_both (k + 1) P Q (by omega)
  have hm := impl_TrainFor.mono P Q (k + 1) _ g2
  have e : (r, c) = (r', c') := Option.some.inj (h2.symm.trans hm)
  obtain ⟨rfl, rfl⟩ := Prod.mk.inj e
  obtain ⟨l', m1, m2⟩ := markT (k + 1) r (by omega) (by omega)
  unfold laws_FnExactTrainFor.f
  simp only [laws_toRatio.f, Option.bind_some, h1, h2, eqT_self (k + 2) r (by omega) (by omega), if_true, bne_self_eq_false, laws_FnExactTrainFor.j0, Bool.false_eq_true, if_false, m1, m2 (k + 1) (by omega)]
  rw [if_neg (by omega)]
  simp only [g2, Option.bind_some, eqT_self (k + 1) r (by omega) (by omega), if_true, bne_self_eq_false, laws_FnExactTrainFor.j1, Bool.false_eq_true, if_false, m2 k (by omega)]
  rw [if_neg (by omega)]
end Go.Proofs.Ytmjfpigkobeahaa.Pure
