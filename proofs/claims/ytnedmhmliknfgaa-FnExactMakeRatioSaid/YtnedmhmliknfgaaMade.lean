/- A ratio brought to its lowest terms, by both texts. -/
import Derived.Test.YtnedmhmliknfgaaPx11
import Derived.Test.YtnedmhmliknfgaaPx10
import Derived.Test.YtnedmhmliknfgaaPx12
import Derived.Test.YtnedmhmliknfgaaCore
namespace Go.Proofs.Ytnedmhmliknfgaa.Core
open Go.RowKit Go.Proofs.Ytnedmhmliknfgaa.P Go.Proofs.YtnedmhmliknfgaaW.PrintWords

theorem gcd_pos {p q : Int} (hp : 1 ≤ p) : (1 : Int) ≤ ((Nat.gcd p.toNat q.toNat : Nat) : Int) := by
  have : 0 < Nat.gcd p.toNat q.toNat := Nat.gcd_pos_of_pos_left _ (by omega)
  omega
/-- p and q without their common divisor. -/
def lowP (p q : Int) : Int := p / ((Nat.gcd p.toNat q.toNat : Nat) : Int)
def lowQ (p q : Int) : Int := q / ((Nat.gcd p.toNat q.toNat : Nat) : Int)
theorem gcd_le_left {p q : Int} (hp : 1 ≤ p) : ((Nat.gcd p.toNat q.toNat : Nat) : Int) ≤ p := by
  have := Nat.le_of_dvd (by omega) (Nat.gcd_dvd_left p.toNat q.toNat)
  omega
theorem gcd_le_right {p q : Int} (hq : 1 ≤ q) : ((Nat.gcd p.toNat q.toNat : Nat) : Int) ≤ q := by
  have := Nat.le_of_dvd (by omega) (Nat.gcd_dvd_right p.toNat q.toNat)
  omega
theorem lowP_bd {p q : Int} (hp : 1 ≤ p) : 1 ≤ lowP p q ∧ lowP p q ≤ p := by
  have h := gcd_pos (q := q) hp
  have h2 := gcd_le_left (q := q) hp
  exact ⟨(Int.le_ediv_iff_mul_le (by omega)).mpr (by omega), Int.ediv_le_self _ (by omega)⟩
theorem lowQ_bd {p q : Int} (hp : 1 ≤ p) (hq : 1 ≤ q) : 1 ≤ lowQ p q ∧ lowQ p q ≤ q := by
  have h := gcd_pos (q := q) hp
  have h2 := gcd_le_right (p := p) hq
  exact ⟨(Int.le_ediv_iff_mul_le (by omega)).mpr (by omega), Int.ediv_le_self _ (by omega)⟩
theorem tdivs {p q : Int} (hp : 1 ≤ p) (hq : 1 ≤ q) (hp2 : p ≤ 9223372036854775807) (hq2 : q ≤ 9223372036854775807) :
    wrap64 (Int.tdiv p ((Nat.gcd p.toNat q.toNat : Nat) : Int)) = lowP p q ∧ wrap64 (Int.tdiv q ((Nat.gcd p.toNat q.toNat : Nat) : Int)) = lowQ p q := by
  have a := lowP_bd (q := q) hp
  have b := lowQ_bd hp hq
  rw [Int.tdiv_eq_ediv_of_nonneg (by omega), Int.tdiv_eq_ediv_of_nonneg (by omega)]
  exact ⟨wr (by unfold lowP at a; omega), wr (by unfold lowQ at b; omega)⟩
theorem reduced_eq (k : Nat) (p q : Int) (hp : 1 ≤ p) (hq : 1 ≤ q) (hp2 : p ≤ 9223372036854775807) (hq2 : q ≤ 9223372036854775807) (hk : q < k) : impl_reduced.f k p q = some (lowP p q, lowQ p q) := by
  unfold impl_reduced.f
  rw [gcd_impl p q (by omega) (by omega) k hk]
  simp only [Option.bind_some]
  have := gcd_pos (q := q) hp
  rw [if_neg (by omega), (tdivs hp hq hp2 hq2).1, (tdivs hp hq hp2 hq2).2]
theorem valid_eq (k : Nat) (p q : Int) (hk : 1000000000 < k) : impl_Ratio_valid.f k p q = some (if okB p q = true then (p, q, 0) else (0, 0, 3)) := by
  unfold impl_Ratio_valid.f
  rw [ok_impl k p q hk]
  simp only [Option.bind_some]
  split <;> rfl
theorem made_eq (k : Nat) (p q : Int) (hp : 1 ≤ p) (hq : 1 ≤ q) (hp2 : p ≤ 9223372036854775807) (hq2 : q ≤ 9223372036854775807) (hk : q < k) (hk2 : 1000000000 < k) :
    spec_l03Made.f k p q = some (if okB (lowP p q) (lowQ p q) = true then (lowP p q, lowQ p q, 0) else (0, 0, 3)) := by
  unfold spec_l03Made.f
  rw [gcd_spec p q (by omega) (by omega) k hk]
  simp only [Option.bind_some]
  have := gcd_pos (q := q) hp
  rw [if_neg (by omega), (tdivs hp hq hp2 hq2).1, (tdivs hp hq hp2 hq2).2, ok_spec k _ _ hk2]
  simp only [Option.bind_some]
  split <;> rfl
theorem eqRatio_self (p q : Int) : laws_eqRatio.f p q p q = some true := by
  unfold laws_eqRatio.f
  simp
end Go.Proofs.Ytnedmhmliknfgaa.Core
