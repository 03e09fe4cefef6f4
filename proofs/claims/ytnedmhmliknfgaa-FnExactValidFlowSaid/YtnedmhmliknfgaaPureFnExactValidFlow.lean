/- FnExactValidFlow: the program's ValidFlow and the reference's return the same, for all arguments that the statement speaks of; no further condition. -/
import Derived.Test.YtnedmhmliknfgaaPx1
import Derived.Test.YtnedmhmliknfgaaCore
namespace Go.Proofs.Ytnedmhmliknfgaa.Pure
open Go.RowKit Go.Proofs.Ytnedmhmliknfgaa.P Go.Proofs.Ytnedmhmliknfgaa.Core Go.Proofs.YtnedmhmliknfgaaW.PrintWords Go.Proofs.YtnedmhmliknfgaaW.PrintLast Go.Proofs.YtnedmhmliknfgaaW.PrintMore

theorem FnExactValidFlow : laws_FnExactValidFlow.Pure := by
  intro p q _ _
  unfold laws_FnExactValidFlow.f laws_toFlow.f spec_ValidFlow.f spec_l04Flow.f impl_ValidFlow.f
  simp only [Option.bind_some, in_eq]
  by_cases h1 : 0 ≤ p <;> by_cases h2 : p ≤ q <;> simp [h1, h2]

end Go.Proofs.Ytnedmhmliknfgaa.Pure
