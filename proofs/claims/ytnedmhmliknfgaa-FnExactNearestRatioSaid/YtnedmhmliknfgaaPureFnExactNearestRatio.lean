/- FnExactNearestRatio: the program's NearestRatio and the reference's return the same, for all arguments that the statement speaks of; no further condition. -/
import Derived.Test.YtnedmhmliknfgaaPx12
import Derived.Test.YtnedmhmliknfgaaNearest
namespace Go.Proofs.Ytnedmhmliknfgaa.Pure
open Go.RowKit Go.Proofs.Ytnedmhmliknfgaa.P Go.Proofs.Ytnedmhmliknfgaa.Core Go.Proofs.YtnedmhmliknfgaaW.PrintWords Go.Proofs.YtnedmhmliknfgaaW.PrintLast Go.Proofs.YtnedmhmliknfgaaW.PrintMore

theorem FnExactNearestRatio : laws_FnExactNearestRatio.Pure := by
  intro P Q m _ _ _
  obtain ⟨k, hk⟩ : ∃ k : Nat, 1000000010 < k := ⟨1000000011, by omega⟩
  refine ⟨k, ?_⟩
  obtain ⟨r, h1, h2⟩ := nearest_both k P Q m hk
  unfold laws_FnExactNearestRatio.f laws_toRatio.f
  simp only [Option.bind_some, h1, h2, eqRatio_selfN, if_true]
end Go.Proofs.Ytnedmhmliknfgaa.Pure
