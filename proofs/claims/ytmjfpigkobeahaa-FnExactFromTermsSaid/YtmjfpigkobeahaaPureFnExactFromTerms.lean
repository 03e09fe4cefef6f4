/- FnExactFromTerms: the program's FromTerms and the reference's return the same, for all arguments that the statement speaks of; no further condition. -/
import Derived.Test.YtmjfpigkobeahaaPx37
import Derived.Test.YtmjfpigkobeahaaFromCore
import Derived.Test.YtmjfpigkobeahaaToInts
namespace Go.Proofs.Ytmjfpigkobeahaa.Pure
open Go.RowKit Go.Proofs.Ytmjfpigkobeahaa.P Go.Proofs.Ytmjfpigkobeahaa.Core Go.Proofs.YtmjfpigkobeahaaW.PrintWords Go.Proofs.YtmjfpigkobeahaaW.PrintLast Go.Proofs.YtmjfpigkobeahaaW.PrintMore

theorem FnExactFromTerms : laws_FnExactFromTerms.Pure := by
  intro l _ _
  obtain ⟨k, hk⟩ : ∃ k : Nat, 10000010 < k := ⟨10000011, by omega⟩
  refine ⟨k + 1, ?_⟩
  unfold laws_FnExactFromTerms.f
  by_cases hl : (l.length : Int) > 1048576
  · rw [if_pos hl]
  · obtain ⟨r, h1, h2⟩ := fromTerms_both (k + 1) l (by omega) (by omega)
    rw [if_neg hl]
    simp only [toI_eq (k + 1) l (by omega) (by omega), toI_eq k l (by omega) (by omega), h1, h2, Option.bind_some, eqRatio_selfF, if_true, bne_self_eq_false, laws_FnExactFromTerms.j0, Bool.false_eq_true, if_false, eqI_self k l (by omega) (by omega)]
end Go.Proofs.Ytmjfpigkobeahaa.Pure
