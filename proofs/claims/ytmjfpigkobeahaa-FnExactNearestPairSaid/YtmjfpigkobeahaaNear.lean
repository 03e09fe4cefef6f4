/- Which of two ratios is nearer: both texts. -/
import Derived.Test.YtmjfpigkobeahaaPx19
import Derived.Test.YtmjfpigkobeahaaPx18
import Derived.Test.YtmjfpigkobeahaaCore
import Derived.Test.YtmjfpigkobeahaaBd
namespace Go.Proofs.Ytmjfpigkobeahaa.Core
open Go.RowKit Go.Proofs.Ytmjfpigkobeahaa.P Go.Proofs.YtmjfpigkobeahaaW.PrintWords Go.Proofs.YtmjfpigkobeahaaW.PrintMore

/-- By how much p / q is off P / Q, times q Q. -/
def offZ (P Q p q : Int) : Int := ((P * q - p * Q).natAbs : Int)
def nearZ (P Q p q s t : Int) : Int := if offZ P Q p q * t < offZ P Q s t * q then -1 else if offZ P Q p q * t > offZ P Q s t * q then 1 else 0
/-- Numbers of a search. -/
def Small (p q : Int) : Prop := (0 ≤ p ∧ p ≤ 1001) ∧ (0 ≤ q ∧ q ≤ 1001)
theorem offZ_bd {P Q p q : Int} (hP : 0 ≤ P ∧ P ≤ 1000000000) (hQ : 0 ≤ Q ∧ Q ≤ 1000000000) (h : Small p q) :
    (0 ≤ P * q ∧ P * q ≤ 1001000000000) ∧ (0 ≤ p * Q ∧ p * Q ≤ 1001000000000) ∧ 0 ≤ offZ P Q p q ∧ offZ P Q p q ≤ 1001000000000 := by
  obtain ⟨a1, a2⟩ := mul_bd hP.1 hP.2 h.2.1 h.2.2
  obtain ⟨b1, b2⟩ := mul_bd h.1.1 h.1.2 hQ.1 hQ.2
  unfold offZ
  omega
theorem size_eq {n : Int} (h : -1001000000000 ≤ n ∧ n ≤ 1001000000000) : spec_l03Size.f n = some (n.natAbs : Int) := by
  unfold spec_l03Size.f
  by_cases c : n < 0
  · rw [if_pos c, wr (by omega)]
    congr 1
    omega
  · rw [if_neg c]
    congr 1
    omega
theorem absolute_eq {n : Int} (h : -1001000000000 ≤ n ∧ n ≤ 1001000000000) : impl_absolute.f n = some (n.natAbs : Int) := by
  unfold impl_absolute.f mx
  rw [wr (by omega)]
  congr 1
  split <;> omega
theorem nearer_spec {P Q p q s t : Int} (hP : 0 ≤ P ∧ P ≤ 1000000000) (hQ : 0 ≤ Q ∧ Q ≤ 1000000000) (h : Small p q) (h' : Small s t) : spec_l03Nearer.f P Q p q s t = some (nearZ P Q p q s t) := by
  obtain ⟨a, b, c, d⟩ := offZ_bd hP hQ h
  obtain ⟨a', b', c', d'⟩ := offZ_bd hP hQ h'
  obtain ⟨m1, m2⟩ := mul_bd c d h'.2.1 h'.2.2
  obtain ⟨n1, n2⟩ := mul_bd c' d' h.2.1 h.2.2
  unfold spec_l03Nearer.f
  rw [wr (show -9223372036854775808 ≤ P * q ∧ P * q ≤ 9223372036854775807 by omega), wr (show -9223372036854775808 ≤ p * Q ∧ p * Q ≤ 9223372036854775807 by omega), wr (show -9223372036854775808 ≤ P * t ∧ P * t ≤ 9223372036854775807 by omega),
    wr (show -9223372036854775808 ≤ s * Q ∧ s * Q ≤ 9223372036854775807 by omega), wr (show -9223372036854775808 ≤ P * q - p * Q ∧ P * q - p * Q ≤ 9223372036854775807 by omega), wr (show -9223372036854775808 ≤ P * t - s * Q ∧ P * t - s * Q ≤ 9223372036854775807 by omega),
    size_eq (by omega), size_eq (by omega)]
  simp only [Option.bind_some]
  show (if wrap64 (offZ P Q p q * t) < wrap64 (offZ P Q s t * q) then some (-1) else if wrap64 (offZ P Q p q * t) > wrap64 (offZ P Q s t * q) then some 1 else some 0) = _
  rw [wr (show -9223372036854775808 ≤ offZ P Q p q * t ∧ offZ P Q p q * t ≤ 9223372036854775807 by omega), wr (show -9223372036854775808 ≤ offZ P Q s t * q ∧ offZ P Q s t * q ≤ 9223372036854775807 by omega)]
  unfold nearZ
  repeat' split
  all_goals rfl
theorem compare_eq (a b : Int) : cmp_Compare_int64.f a b = some (if a < b then -1 else if a > b then 1 else 0) := by
  unfold cmp_Compare_int64.f cmp_isNaN_int64.f
  simp only [Option.bind_some, bne_self_eq_false, Bool.false_eq_true, if_false]
  repeat' split
  all_goals rfl
theorem natAbs_flip (a b : Int) : (a - b).natAbs = (b - a).natAbs := by omega
theorem nearer_impl {P Q p q s t : Int} (hP : 0 ≤ P ∧ P ≤ 1000000000) (hQ : 0 ≤ Q ∧ Q ≤ 1000000000) (h : Small p q) (h' : Small s t) : impl_Ratio_nearer.f P Q p q s t = some (nearZ P Q p q s t) := by
  obtain ⟨a, b, c, d⟩ := offZ_bd hP hQ h
  obtain ⟨a', b', c', d'⟩ := offZ_bd hP hQ h'
  obtain ⟨m1, m2⟩ := mul_bd c d h'.2.1 h'.2.2
  obtain ⟨n1, n2⟩ := mul_bd c' d' h.2.1 h.2.2
  unfold impl_Ratio_nearer.f
  rw [wr (show -9223372036854775808 ≤ P * q ∧ P * q ≤ 9223372036854775807 by omega), wr (show -9223372036854775808 ≤ p * Q ∧ p * Q ≤ 9223372036854775807 by omega), wr (show -9223372036854775808 ≤ P * t ∧ P * t ≤ 9223372036854775807 by omega),
    wr (show -9223372036854775808 ≤ s * Q ∧ s * Q ≤ 9223372036854775807 by omega), wr (show -9223372036854775808 ≤ p * Q - P * q ∧ p * Q - P * q ≤ 9223372036854775807 by omega), wr (show -9223372036854775808 ≤ s * Q - P * t ∧ s * Q - P * t ≤ 9223372036854775807 by omega),
    absolute_eq (by omega), absolute_eq (by omega), natAbs_flip, natAbs_flip (s * Q)]
  simp only [Option.bind_some]
  show (cmp_Compare_int64.f (wrap64 (offZ P Q p q * t)) (wrap64 (offZ P Q s t * q))).bind _ = _
  rw [wr (show -9223372036854775808 ≤ offZ P Q p q * t ∧ offZ P Q p q * t ≤ 9223372036854775807 by omega), wr (show -9223372036854775808 ≤ offZ P Q s t * q ∧ offZ P Q s t * q ≤ 9223372036854775807 by omega), compare_eq]
  rfl
end Go.Proofs.Ytmjfpigkobeahaa.Core
