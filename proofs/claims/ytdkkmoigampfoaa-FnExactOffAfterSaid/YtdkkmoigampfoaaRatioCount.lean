/- May turns be counted? -/
import Derived.Test.YtdkkmoigampfoaaRatioCore
import Derived.Test.YtdkkmoigampfoaaPx9
namespace Go.Proofs.Ytdkkmoigampfoaa.Core
open Go.RowKit Go.Proofs.Ytdkkmoigampfoaa.P Go.Proofs.YtdkkmoigampfoaaW.PrintWords
theorem countT_eq (a : Int) : spec_l03Count.f a = some (decide (0 ≤ a ∧ a ≤ 1000000000)) := by
  unfold spec_l03Count.f
  rw [inT_eq]
  rfl
end Go.Proofs.Ytdkkmoigampfoaa.Core
