/- A ratio, or a code: the program's text. -/
import Derived.Test.YtnedmhmliknfgaaPx2
import Derived.Test.YtnedmhmliknfgaaCore
namespace Go.Proofs.Ytnedmhmliknfgaa.Core
open Go.RowKit Go.Proofs.Ytnedmhmliknfgaa.P Go.Proofs.YtnedmhmliknfgaaW.PrintWords
theorem valid_eq (k : Nat) (p q : Int) (hk : 1000000000 < k) : impl_Ratio_valid.f k p q = some (if okB p q = true then (p, q, 0) else (0, 0, 3)) := by
  unfold impl_Ratio_valid.f
  rw [ok_impl k p q hk]
  simp only [Option.bind_some]
  split <;> rfl
end Go.Proofs.Ytnedmhmliknfgaa.Core
