/- A value brought into a size; the sign of a number. -/
import Derived.Test.YtmmplpflbflekaaPx12
import Derived.Test.YtmmplpflbflekaaPx6
import Derived.Test.YtmmplpflbflekaaStackCore
namespace Go.Proofs.Ytmmplpflbflekaa.Core
open Go.RowKit Go.Proofs.Ytmmplpflbflekaa.P Go.Proofs.YtmmplpflbflekaaW.PrintWords Go.Proofs.YtmmplpflbflekaaW.PrintMore
theorem sign_eq (n : Int) : impl_sign.f n = some (if n < 0 then -1 else if n > 0 then 1 else 0) := by
  have h : mn (mx n (-1)) 1 = if n < 0 then -1 else if n > 0 then 1 else 0 := by
    unfold mn mx
    repeat' split
    all_goals omega
  unfold impl_sign.f
  rw [h]
theorem floor_eq (a b : Int) (hb : 1 ≤ b) (h0 : -4000000000000000000 ≤ a) (h1 : a ≤ 4000000000000000000) : impl_floor.f a b = some (a / b) := by
  unfold impl_floor.f
  rw [if_neg (by omega)]
  have hb0 : decide (b < 0) = false := decide_eq_false (by omega)
  have d1 := Int.mul_tdiv_add_tmod a b
  have d2 := Int.mul_ediv_add_emod a b
  have d3 := Int.emod_nonneg a (show b ≠ 0 by omega)
  have d4 := Int.emod_lt_of_pos a (show 0 < b by omega)
  have q1 : a / b ≤ 4000000000000000000 := by
    have := Int.ediv_le_ediv (show 0 < b by omega) h1
    have := Int.ediv_le_self b (show (0:Int) ≤ 4000000000000000000 by omega)
    omega
  have q2 : -4000000000000000000 ≤ a / b := by
    rw [Int.le_ediv_iff_mul_le (by omega)]
    have := Int.mul_le_mul_of_nonneg_left hb (show (0:Int) ≤ 4000000000000000000 by omega)
    omega
  by_cases hs : 0 ≤ a
  · have e1 : Int.tdiv a b = a / b := Int.tdiv_eq_ediv_of_nonneg hs
    rw [e1]
    have hd : decide (a < 0) = false := decide_eq_false (by omega)
    rw [hd, hb0, wr (by omega)]
    split <;> simp
  · have hd : decide (a < 0) = true := decide_eq_true (by omega)
    have n1 : Int.tdiv a b = -((-a) / b) := by
      rw [← Int.tdiv_eq_ediv_of_nonneg (show 0 ≤ -a by omega), Int.neg_tdiv, Int.neg_neg]
    have n2 : Int.tmod a b = -((-a) % b) := by
      rw [← Int.tmod_eq_emod_of_nonneg (show 0 ≤ -a by omega), Int.neg_tmod, Int.neg_neg]
    have f1 := Int.mul_ediv_add_emod (-a) b
    have f2 := Int.emod_nonneg (-a) (show b ≠ 0 by omega)
    have f3 := Int.emod_lt_of_pos (-a) (show 0 < b by omega)
    rw [hd, hb0, n1, n2]
    have p1 : 0 ≤ (-a) / b := Int.ediv_nonneg (by omega) (by omega)
    have p2 : (-a) / b ≤ -a := Int.ediv_le_self _ (by omega)
    rw [wr (show -9223372036854775808 ≤ -((-a) / b) ∧ -((-a) / b) ≤ 9223372036854775807 by omega)]
    by_cases hz : (-a) % b = 0
    · rw [if_pos (by omega)]
      congr 1
      symm
      have : a / b = -((-a) / b) := by
        rw [Int.ediv_eq_iff_of_pos (by omega)]
        have : (-((-a) / b)) * b = - (b * ((-a) / b)) := by rw [Int.neg_mul, Int.mul_comm]
        constructor <;> omega
      exact this
    · rw [if_neg (by omega), if_pos (by rfl), wr (by omega)]
      congr 1
      symm
      rw [Int.ediv_eq_iff_of_pos (by omega)]
      have : (-((-a) / b) - 1) * b = - (b * ((-a) / b)) - b := by rw [Int.sub_mul, Int.neg_mul, Int.mul_comm]; omega
      constructor <;> omega
theorem wrapped_eq (a b : Int) (hb : 1 ≤ b) (hb1 : b ≤ 4000000000000000000) (h0 : -4000000000000000000 ≤ a) (h1 : a ≤ 4000000000000000000) : impl_wrapped.f a b = some (a % b, a / b) := by
  unfold impl_wrapped.f
  rw [floor_eq a b hb h0 h1]
  simp only [Option.bind_some]
  have d2 := Int.mul_ediv_add_emod a b
  have d3 := Int.emod_nonneg a (show b ≠ 0 by omega)
  have d4 := Int.emod_lt_of_pos a (show 0 < b by omega)
  rw [Int.mul_comm (a / b) b, wr (show -9223372036854775808 ≤ b * (a / b) ∧ b * (a / b) ≤ 9223372036854775807 by omega), wr (by omega)]
  congr 2
  omega
end Go.Proofs.Ytmmplpflbflekaa.Core
