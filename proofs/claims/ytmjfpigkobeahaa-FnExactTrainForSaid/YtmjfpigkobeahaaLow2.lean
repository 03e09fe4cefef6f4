/- A ratio brought to its lowest terms, and products of such, as the program reckons them. -/
import Derived.Test.YtmjfpigkobeahaaPx30
import Derived.Test.YtmjfpigkobeahaaPx31
import Derived.Test.YtmjfpigkobeahaaCore
namespace Go.Proofs.Ytmjfpigkobeahaa.Core
open Go.RowKit Go.Proofs.Ytmjfpigkobeahaa.P Go.Proofs.YtmjfpigkobeahaaW.PrintWords
theorem gcd_pos {p q : Int} (hp : 1 ≤ p) : (1 : Int) ≤ ((Nat.gcd p.toNat q.toNat : Nat) : Int) := by
  have : 0 < Nat.gcd p.toNat q.toNat := Nat.gcd_pos_of_pos_left _ (by omega)
  omega
/-- p and q without their common divisor. -/
def lowP (p q : Int) : Int := p / ((Nat.gcd p.toNat q.toNat : Nat) : Int)
def lowQ (p q : Int) : Int := q / ((Nat.gcd p.toNat q.toNat : Nat) : Int)
theorem gcd_le_left {p q : Int} (hp : 1 ≤ p) : ((Nat.gcd p.toNat q.toNat : Nat) : Int) ≤ p := by
  have := Nat.le_of_dvd (by omega) (Nat.gcd_dvd_left p.toNat q.toNat)
  omega
theorem gcd_le_right {p q : Int} (hq : 1 ≤ q) : ((Nat.gcd p.toNat q.toNat : Nat) : Int) ≤ q := by
  have := Nat.le_of_dvd (by omega) (Nat.gcd_dvd_right p.toNat q.toNat)
  omega
theorem lowP_bd {p q : Int} (hp : 1 ≤ p) : 1 ≤ lowP p q ∧ lowP p q ≤ p := by
  have h := gcd_pos (q := q) hp
  have h2 := gcd_le_left (q := q) hp
  exact ⟨(Int.le_ediv_iff_mul_le (by omega)).mpr (by omega), Int.ediv_le_self _ (by omega)⟩
theorem lowQ_bd {p q : Int} (hp : 1 ≤ p) (hq : 1 ≤ q) : 1 ≤ lowQ p q ∧ lowQ p q ≤ q := by
  have h := gcd_pos (q := q) hp
  have h2 := gcd_le_right (p := p) hq
  exact ⟨(Int.le_ediv_iff_mul_le (by omega)).mpr (by omega), Int.ediv_le_self _ (by omega)⟩
theorem tdivs {p q : Int} (hp : 1 ≤ p) (hq : 1 ≤ q) (hp2 : p ≤ 9223372036854775807) (hq2 : q ≤ 9223372036854775807) :
    wrap64 (Int.tdiv p ((Nat.gcd p.toNat q.toNat : Nat) : Int)) = lowP p q ∧ wrap64 (Int.tdiv q ((Nat.gcd p.toNat q.toNat : Nat) : Int)) = lowQ p q := by
  have a := lowP_bd (q := q) hp
  have b := lowQ_bd hp hq
  rw [Int.tdiv_eq_ediv_of_nonneg (by omega), Int.tdiv_eq_ediv_of_nonneg (by omega)]
  exact ⟨wr (by unfold lowP at a; omega), wr (by unfold lowQ at b; omega)⟩
theorem reduced_eq (k : Nat) (p q : Int) (hp : 1 ≤ p) (hq : 1 ≤ q) (hp2 : p ≤ 9223372036854775807) (hq2 : q ≤ 9223372036854775807) (hk : q < k) : impl_reduced.f k p q = some (lowP p q, lowQ p q) := by
  unfold impl_reduced.f
  rw [gcd_impl p q (by omega) (by omega) k hk]
  simp only [Option.bind_some]
  have := gcd_pos (q := q) hp
  rw [if_neg (by omega), (tdivs hp hq hp2 hq2).1, (tdivs hp hq hp2 hq2).2]
theorem low_gcd {p q : Int} (hp : 1 ≤ p) : Nat.gcd (lowP p q).toNat (lowQ p q).toNat = 1 := by
  obtain ⟨p, rfl⟩ := Int.eq_ofNat_of_zero_le (show 0 ≤ p by omega)
  by_cases hq : 0 ≤ q
  · obtain ⟨q, rfl⟩ := Int.eq_ofNat_of_zero_le hq
    unfold lowP lowQ
    simp only [Int.toNat_natCast]
    exact Nat.coprime_div_gcd_div_gcd (Nat.gcd_pos_of_pos_left _ (by omega))
  · have e : q.toNat = 0 := by omega
    unfold lowP lowQ
    rw [e]
    simp only [Int.toNat_natCast, Nat.gcd_zero_right]
    rw [Int.ediv_self (by omega)]
    simp
theorem low_self {p q : Int} (hg : Nat.gcd p.toNat q.toNat = 1) : lowP p q = p ∧ lowQ p q = q := by
  unfold lowP lowQ
  rw [hg]
  simp
/-- p and q are at least 1 and have no common divisor. -/
def Cop (p q : Int) : Prop := 1 ≤ p ∧ 1 ≤ q ∧ Nat.gcd p.toNat q.toNat = 1
theorem toNat_mul {a b : Int} (ha : 0 ≤ a) (hb : 0 ≤ b) : (a * b).toNat = a.toNat * b.toNat := by
  obtain ⟨a, rfl⟩ := Int.eq_ofNat_of_zero_le ha
  obtain ⟨b, rfl⟩ := Int.eq_ofNat_of_zero_le hb
  rw [← Int.natCast_mul, Int.toNat_natCast, Int.toNat_natCast, Int.toNat_natCast]
theorem dvd_low {p q : Int} (hp : 1 ≤ p) (hq : 1 ≤ q) : (lowP p q).toNat ∣ p.toNat ∧ (lowQ p q).toNat ∣ q.toNat := by
  obtain ⟨p, rfl⟩ := Int.eq_ofNat_of_zero_le (show 0 ≤ p by omega)
  obtain ⟨q, rfl⟩ := Int.eq_ofNat_of_zero_le (show 0 ≤ q by omega)
  unfold lowP lowQ
  simp only [Int.toNat_natCast]
  exact ⟨Nat.div_dvd_of_dvd (Nat.gcd_dvd_left _ _), Nat.div_dvd_of_dvd (Nat.gcd_dvd_right _ _)⟩
theorem mul_bd1 {a b A B : Int} (ha : 1 ≤ a) (hb : 1 ≤ b) (hA : a ≤ A) (hB : b ≤ B) : 1 ≤ a * b ∧ a * b ≤ A * B := by
  constructor
  · exact Int.le_trans (by decide : (1 : Int) ≤ 1 * 1) (Int.mul_le_mul ha hb (by omega) (by omega))
  · exact Int.mul_le_mul hA hB (by omega) (by omega)
/-- The product of two ratios, each brought across to the lowest terms. -/
def tP (p q u v : Int) : Int := lowP p v * lowP u q
def tQ (p q u v : Int) : Int := lowQ u q * lowQ p v
theorem times_cop {p q u v : Int} (h : Cop p q) (h2 : Cop u v) : Cop (tP p q u v) (tQ p q u v) := by
  obtain ⟨a1, a2, a3⟩ := h
  obtain ⟨b1, b2, b3⟩ := h2
  have l1 := lowP_bd (q := v) a1
  have l2 := lowP_bd (q := q) b1
  have l3 := lowQ_bd b1 a2
  have l4 := lowQ_bd a1 b2
  have d1 := dvd_low a1 b2
  have d2 := dvd_low b1 a2
  refine ⟨(mul_bd1 l1.1 l2.1 l1.2 l2.2).1, (mul_bd1 l3.1 l4.1 l3.2 l4.2).1, ?_⟩
  unfold tP tQ
  rw [toNat_mul (by omega) (by omega), toNat_mul (by omega) (by omega)]
  have e1 : Nat.Coprime (lowP p v).toNat (lowQ u q).toNat := Nat.Coprime.coprime_dvd_left d1.1 (Nat.Coprime.symm (Nat.Coprime.coprime_dvd_left d2.2 (Nat.Coprime.symm a3)))
  have e2 : Nat.Coprime (lowP p v).toNat (lowQ p v).toNat := low_gcd a1
  have e3 : Nat.Coprime (lowP u q).toNat (lowQ u q).toNat := low_gcd b1
  have e4 : Nat.Coprime (lowP u q).toNat (lowQ p v).toNat := Nat.Coprime.coprime_dvd_left d2.1 (Nat.Coprime.symm (Nat.Coprime.coprime_dvd_left d1.2 (Nat.Coprime.symm b3)))
  exact Nat.Coprime.mul_left (Nat.Coprime.mul_right e1 e2) (Nat.Coprime.mul_right e3 e4)
theorem times_impl (k : Nat) (p q u v : Int) (h : Cop p q) (h2 : Cop u v) (hp : p ≤ 1000000000) (hq : q ≤ 1000000000) (hu : u ≤ 1000000000) (hv : v ≤ 1000000000) (hk : 1000000000 < k) : impl_Ratio_times.f k p q u v = some (tP p q u v, tQ p q u v) := by
  obtain ⟨a1, a2, a3⟩ := h
  obtain ⟨b1, b2, b3⟩ := h2
  have l1 := lowP_bd (q := v) a1
  have l2 := lowP_bd (q := q) b1
  have l3 := lowQ_bd b1 a2
  have l4 := lowQ_bd a1 b2
  have m1 := mul_bd1 l1.1 l2.1 (show lowP p v ≤ 1000000000 by omega) (show lowP u q ≤ 1000000000 by omega)
  have m2 := mul_bd1 l4.1 l3.1 (show lowQ p v ≤ 1000000000 by omega) (show lowQ u q ≤ 1000000000 by omega)
  unfold impl_Ratio_times.f
  rw [reduced_eq k p v a1 b2 (by omega) (by omega) (by omega), reduced_eq k u q b1 a2 (by omega) (by omega) (by omega)]
  simp only [Option.bind_some]
  rw [wr (by omega), wr (by omega), Int.mul_comm (lowQ p v)]
  rfl
end Go.Proofs.Ytmjfpigkobeahaa.Core
