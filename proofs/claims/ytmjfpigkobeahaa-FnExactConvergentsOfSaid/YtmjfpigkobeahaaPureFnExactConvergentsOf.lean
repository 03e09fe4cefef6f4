/- FnExactConvergentsOf: the program's ConvergentsOf and the reference's return the same, for all arguments that the statement speaks of; no further condition. -/
import Derived.Test.YtmjfpigkobeahaaConvCore
import Derived.Test.YtmjfpigkobeahaaPx39
namespace Go.Proofs.Ytmjfpigkobeahaa.Pure
open Go.RowKit Go.Proofs.Ytmjfpigkobeahaa.P Go.Proofs.Ytmjfpigkobeahaa.Core Go.Proofs.YtmjfpigkobeahaaW.PrintWords Go.Proofs.YtmjfpigkobeahaaW.PrintLast Go.Proofs.YtmjfpigkobeahaaW.PrintMore

theorem FnExactConvergentsOf : laws_FnExactConvergentsOf.Pure := by
  intro a0_0 a0_1 _ _
  obtain ⟨k, hk⟩ : ∃ k : Nat, 3000000010 < k := ⟨3000000011, by omega⟩
  refine ⟨k + 2, ?_⟩
  obtain ⟨⟨r, c⟩, hr, h1, h2⟩ := convOf_both (k + 2) a0_0 a0_1 (by omega)
  obtain ⟨⟨r', c'⟩, _, _, g2⟩ := convOf_both (k + 1) a0_0 a0_1 (by omega)
  have hm := impl_ConvergentsOf.mono a0_0 a0_1 (k + 1) _ g2
  have e : (r, c) = (r', c') := Option.some.inj (h2.symm.trans hm)
  obtain ⟨rfl, rfl⟩ := Prod.mk.inj e
  have hr' : r.length ≤ 2000000000 := hr
  obtain ⟨l', m1, m2⟩ := markR (k + 1) r (by omega) (by omega)
  unfold laws_FnExactConvergentsOf.f
  simp only [laws_toRatio.f, Option.bind_some, h1, h2, eqR_self (k + 2) r (by omega) (by omega), if_true, bne_self_eq_false, laws_FnExactConvergentsOf.j0, Bool.false_eq_true, if_false, m1, m2 (k + 1) (by omega)]
  rw [if_neg (by omega)]
  simp only [g2, Option.bind_some, eqR_self (k + 1) r (by omega) (by omega), if_true, bne_self_eq_false, laws_FnExactConvergentsOf.j1, Bool.false_eq_true, if_false, m2 k (by omega)]
  rw [if_neg (by omega)]
end Go.Proofs.Ytmjfpigkobeahaa.Pure
