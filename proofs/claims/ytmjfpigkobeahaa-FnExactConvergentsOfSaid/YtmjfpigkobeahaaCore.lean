/- Plain words for the smallest functions: bounds, Euclid's loop, valid ratios. -/
import Derived.Test.YtmjfpigkobeahaaPx2
import Derived.Test.YtmjfpigkobeahaaPx4
import Derived.IntWalk
namespace Go.Proofs.Ytmjfpigkobeahaa.Core
open Go.RowKit Go.Proofs.Ytmjfpigkobeahaa.P Go.Proofs.YtmjfpigkobeahaaW.PrintWords

theorem wr {n : Int} (h : -9223372036854775808 ≤ n ∧ n ≤ 9223372036854775807) : wrap64 n = n := Go.IntWalk.wrap64_in n h
theorem wf64 {n : Int} (h : (Lit.int .i64 n).wf = true) : -9223372036854775808 ≤ n ∧ n ≤ 9223372036854775807 := by
  simp [Lit.wf, IntKind.min, IntKind.max, IntKind.signed, IntKind.bits] at h
  omega

/-- Euclid's loop comes to the greatest common divisor. -/
theorem gcd_rounds (l : Nat → Int → Int → Option Int) (hl : ∀ k x y, l (k + 1) x y = if y = 0 then some x else l k y (Int.tmod x y)) :
    ∀ (b a k : Nat), b < k → l k (a : Int) (b : Int) = some ((Nat.gcd a b : Nat) : Int) := by
  intro b
  induction b using Nat.strongRecOn with
  | _ b ih =>
    intro a k hk
    obtain ⟨k, rfl⟩ : ∃ m, k = m + 1 := ⟨k - 1, by omega⟩
    rw [hl]
    by_cases h : b = 0
    · subst h
      simp
    · have hb : ¬ ((b : Int) = 0) := by omega
      rw [if_neg hb]
      have hlt := Nat.mod_lt a (show 0 < b by omega)
      have hm : Int.tmod (a : Int) (b : Int) = ((a % b : Nat) : Int) := rfl
      rw [hm, ih (a % b) hlt b k (by omega), Nat.gcd_comm a b, Nat.gcd_rec b a, Nat.gcd_comm b (a % b)]

theorem gcd_int (l : Nat → Int → Int → Option Int) (hl : ∀ k x y, l (k + 1) x y = if y = 0 then some x else l k y (Int.tmod x y))
    (a b : Int) (ha : 0 ≤ a) (hb : 0 ≤ b) (k : Nat) (hk : b < k) : l k a b = some ((Nat.gcd a.toNat b.toNat : Nat) : Int) := by
  obtain ⟨a, rfl⟩ := Int.eq_ofNat_of_zero_le ha
  obtain ⟨b, rfl⟩ := Int.eq_ofNat_of_zero_le hb
  exact gcd_rounds l hl b a k (by omega)

theorem within_eq (a lo hi : Int) : impl_within.f a lo hi = some (decide (lo ≤ a ∧ a ≤ hi)) := by
  unfold impl_within.f
  by_cases h : lo ≤ a <;> simp [h]
theorem in_eq (a lo hi : Int) : spec_l00In.f a lo hi = some (decide (lo ≤ a ∧ a ≤ hi)) := by
  unfold spec_l00In.f
  by_cases h : lo ≤ a <;> simp [h]

theorem gcd_impl (a b : Int) (ha : 0 ≤ a) (hb : 0 ≤ b) (k : Nat) (hk : b < k) : impl_gcd.f k a b = some ((Nat.gcd a.toNat b.toNat : Nat) : Int) :=
  gcd_int impl_gcd.l0 (fun _ _ _ => rfl) a b ha hb k hk
theorem gcd_spec (a b : Int) (ha : 0 ≤ a) (hb : 0 ≤ b) (k : Nat) (hk : b < k) : spec_l03Gcd.f k a b = some ((Nat.gcd a.toNat b.toNat : Nat) : Int) :=
  gcd_int spec_l03Gcd.l0 (fun _ _ _ => rfl) a b ha hb k hk

/-- Is P / Q a valid ratio? -/
def okB (p q : Int) : Bool := decide ((1 ≤ p ∧ p ≤ 1000000000) ∧ (1 ≤ q ∧ q ≤ 1000000000) ∧ Nat.gcd p.toNat q.toNat = 1)
theorem okB_true {p q : Int} : okB p q = true ↔ (1 ≤ p ∧ p ≤ 1000000000) ∧ (1 ≤ q ∧ q ≤ 1000000000) ∧ Nat.gcd p.toNat q.toNat = 1 := by
  unfold okB
  exact decide_eq_true_iff

theorem beq_one (n : Nat) : (((n : Nat) : Int) == 1) = decide (n = 1) := by
  rw [Bool.eq_iff_iff]
  simp
  omega
theorem ok_impl (k : Nat) (p q : Int) (hk : 1000000000 < k) : impl_ValidRatio.f k p q = some (okB p q) := by
  unfold impl_ValidRatio.f
  rw [within_eq, within_eq]
  simp only [Option.bind_some, decide_eq_true_eq]
  by_cases h1 : 1 ≤ p ∧ p ≤ 1000000000
  · by_cases h2 : 1 ≤ q ∧ q ≤ 1000000000
    · rw [if_pos h1, if_pos h2, gcd_impl p q (by omega) (by omega) k (by omega)]
      simp only [Option.bind_some, beq_one]
      simp [okB, h1, h2]
    · rw [if_pos h1, if_neg h2]
      simp [okB, h2]
  · rw [if_neg h1]
    simp [okB, h1]
theorem ok_spec (k : Nat) (p q : Int) (hk : 1000000000 < k) : spec_l03Ok.f k p q = some (okB p q) := by
  unfold spec_l03Ok.f
  rw [in_eq, in_eq]
  simp only [Option.bind_some, decide_eq_true_eq]
  by_cases h1 : 1 ≤ p ∧ p ≤ 1000000000
  · by_cases h2 : 1 ≤ q ∧ q ≤ 1000000000
    · rw [if_pos h1, if_pos h2, gcd_spec p q (by omega) (by omega) k (by omega)]
      simp only [Option.bind_some, beq_one]
      simp [okB, h1, h2]
    · rw [if_pos h1, if_neg h2]
      simp [okB, h2]
  · rw [if_neg h1]
    simp [okB, h1]
end Go.Proofs.Ytmjfpigkobeahaa.Core
