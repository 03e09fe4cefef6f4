/- FnExactValidRatio: the program's ValidRatio and the reference's return the same, for all arguments that the statement speaks of; no further condition. -/
import Derived.Test.YtnedmhmliknfgaaPx6
import Derived.Test.YtnedmhmliknfgaaCore
namespace Go.Proofs.Ytnedmhmliknfgaa.Pure
open Go.RowKit Go.Proofs.Ytnedmhmliknfgaa.P Go.Proofs.Ytnedmhmliknfgaa.Core Go.Proofs.YtnedmhmliknfgaaW.PrintWords Go.Proofs.YtnedmhmliknfgaaW.PrintLast Go.Proofs.YtnedmhmliknfgaaW.PrintMore

theorem FnExactValidRatio : laws_FnExactValidRatio.Pure := by
  intro p q _ _
  refine ⟨1000000001, ?_⟩
  unfold laws_FnExactValidRatio.f laws_toRatio.f spec_ValidRatio.f
  generalize hk : 1000000001 = k
  simp only [Option.bind_some, ok_spec k _ _ (by omega), ok_impl k _ _ (by omega)]
  simp

end Go.Proofs.Ytnedmhmliknfgaa.Pure
