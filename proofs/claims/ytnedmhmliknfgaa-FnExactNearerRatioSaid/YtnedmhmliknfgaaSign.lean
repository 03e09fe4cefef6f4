/- The sign of a number; bounds of a product. -/
import Derived.Test.YtnedmhmliknfgaaPx7
import Derived.Test.YtnedmhmliknfgaaCore
namespace Go.Proofs.Ytnedmhmliknfgaa.Core
open Go.RowKit Go.Proofs.Ytnedmhmliknfgaa.P Go.Proofs.YtnedmhmliknfgaaW.PrintWords Go.Proofs.YtnedmhmliknfgaaW.PrintMore

theorem sign_eq (n : Int) : impl_sign.f n = some (if n < 0 then -1 else if n > 0 then 1 else 0) := by
  have h : mn (mx n (-1)) 1 = if n < 0 then -1 else if n > 0 then 1 else 0 := by
    unfold mn mx
    repeat' split
    all_goals omega
  unfold impl_sign.f
  rw [h]
theorem mul_bd {a b A B : Int} (h0 : 0 ≤ a) (h1 : a ≤ A) (h2 : 0 ≤ b) (h3 : b ≤ B) : 0 ≤ a * b ∧ a * b ≤ A * B :=
  ⟨Int.mul_nonneg h0 h2, Int.mul_le_mul h1 h3 h2 (by omega)⟩
end Go.Proofs.Ytnedmhmliknfgaa.Core
