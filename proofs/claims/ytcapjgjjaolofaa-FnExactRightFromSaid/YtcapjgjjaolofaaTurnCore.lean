/- A turn brought into a span: both texts. -/
import Derived.Test.YtcapjgjjaolofaaPx9
import Derived.Test.YtcapjgjjaolofaaPx8
import Derived.Test.YtcapjgjjaolofaaFloor
namespace Go.Proofs.Ytcapjgjjaolofaa.Core
open Go.RowKit Go.Proofs.Ytcapjgjjaolofaa.P Go.Proofs.YtcapjgjjaolofaaW.PrintWords Go.Proofs.YtcapjgjjaolofaaW.PrintMore
theorem down_floor (a b : Int) (hb : 1 ≤ b) : spec_l02Down.f a b = impl_floor.f a b := by
  unfold spec_l02Down.f impl_floor.f
  have hbn : ¬ b = 0 := by omega
  simp only [if_neg hbn]
  have hb0 : decide (b < 0) = false := decide_eq_false (by omega)
  by_cases hs : 0 ≤ a
  · have h := Int.tmod_nonneg b hs
    have hd : decide (a < 0) = false := decide_eq_false (by omega)
    rw [if_neg (by omega), hd, hb0]
    split <;> simp
  · have hd : decide (a < 0) = true := decide_eq_true (by omega)
    have n2 : Int.tmod a b = -((-a) % b) := by
      rw [← Int.tmod_eq_emod_of_nonneg (show 0 ≤ -a by omega), Int.neg_tmod, Int.neg_neg]
    have f2 := Int.emod_nonneg (-a) (show b ≠ 0 by omega)
    rw [hd, hb0, n2]
    by_cases hz : (-a) % b = 0
    · rw [if_neg (by omega), if_pos (by omega)]
    · have c1 : -(-a % b) < 0 := by omega
      have c2 : ¬ -(-a % b) = 0 := by omega
      rw [if_pos c1, if_neg c2, if_pos (by rfl)]
theorem turn_both (a b : Int) (hb : 1 ≤ b) (hb1 : b ≤ 4000000000000000000) (h0 : -4000000000000000000 ≤ a) (h1 : a ≤ 4000000000000000000) :
    spec_l02Down.f a b = some (a / b) ∧ impl_wrapped.f a b = some (a % b, a / b) ∧ wrap64 (a - wrap64 (a / b * b)) = a % b := by
  refine ⟨by rw [down_floor a b hb, floor_eq a b hb h0 h1], wrapped_eq a b hb hb1 h0 h1, ?_⟩
  have d2 := Int.mul_ediv_add_emod a b
  have d3 := Int.emod_nonneg a (show b ≠ 0 by omega)
  have d4 := Int.emod_lt_of_pos a (show 0 < b by omega)
  rw [Int.mul_comm (a / b) b, wr (show -9223372036854775808 ≤ b * (a / b) ∧ b * (a / b) ≤ 9223372036854775807 by omega), wr (by omega)]
  omega
end Go.Proofs.Ytcapjgjjaolofaa.Core
