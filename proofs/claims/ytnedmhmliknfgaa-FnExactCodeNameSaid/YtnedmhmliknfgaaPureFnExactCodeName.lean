/- FnExactCodeName: the program's CodeName and the reference's return the same, for all arguments that the statement speaks of; no further condition. -/
import Derived.Test.YtnedmhmliknfgaaPx2
import Derived.Test.YtnedmhmliknfgaaCore
namespace Go.Proofs.Ytnedmhmliknfgaa.Pure
open Go.RowKit Go.Proofs.Ytnedmhmliknfgaa.P Go.Proofs.Ytnedmhmliknfgaa.Core Go.Proofs.YtnedmhmliknfgaaW.PrintWords Go.Proofs.YtnedmhmliknfgaaW.PrintLast Go.Proofs.YtnedmhmliknfgaaW.PrintMore

theorem FnExactCodeName : laws_FnExactCodeName.Pure := by
  intro a _
  unfold laws_FnExactCodeName.f spec_CodeName.f impl_CodeName.f
  have hw : wrap64 (9 - 1) = 8 := wr (by omega)
  simp only [Option.bind_some, in_eq, within_eq, List.length_cons, List.length_nil, Nat.zero_add, Nat.reduceAdd, Int.cast_ofNat_Int, hw]
  by_cases h : 0 ≤ a ∧ a ≤ 8
  · obtain ⟨h0, h8⟩ := h
    have h9 : a < 9 := by omega
    simp [h0, h8, h9]
  · simp [h]

end Go.Proofs.Ytnedmhmliknfgaa.Pure
