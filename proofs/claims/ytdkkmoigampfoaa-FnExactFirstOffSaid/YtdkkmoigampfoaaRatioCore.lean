/- The ratio of a train, by both texts. -/
import Derived.Test.YtdkkmoigampfoaaTrainOk
import Derived.Test.YtdkkmoigampfoaaLow
import Derived.Test.YtdkkmoigampfoaaPx12
import Derived.Test.YtdkkmoigampfoaaPx9
namespace Go.Proofs.Ytdkkmoigampfoaa.Core
open Go.RowKit Go.Proofs.Ytdkkmoigampfoaa.P Go.Proofs.YtdkkmoigampfoaaW.PrintWords
/-- Numbers of teeth as they are in a valid train. -/
def Teeth (l : List S49) : Prop := ∀ p ∈ l, (8 ≤ p.f0 ∧ p.f0 ≤ 120) ∧ (8 ≤ p.f1 ∧ p.f1 ≤ 120)
/-- A ratio whose numbers are at most b. -/
def Small (b p q : Int) : Prop := Cop p q ∧ p ≤ b ∧ q ≤ b
theorem small_times {b p q u v : Int} (h : Small b p q) (h2 : Small 120 u v) : Small (b * 120) (tP p q u v) (tQ p q u v) := by
  have hc := times_cop h.1 h2.1
  obtain ⟨⟨a1, a2, a3⟩, ap, aq⟩ := h
  obtain ⟨⟨b1, b2, b3⟩, bp, bq⟩ := h2
  have l1 := lowP_bd (q := v) a1
  have l2 := lowP_bd (q := q) b1
  have l3 := lowQ_bd b1 a2
  have l4 := lowQ_bd a1 b2
  exact ⟨hc, (mul_bd l1.1 l2.1 (show lowP p v ≤ b by omega) (show lowP u q ≤ 120 by omega)).2, (mul_bd l3.1 l4.1 (show lowQ u q ≤ b by omega) (show lowQ p v ≤ 120 by omega)).2⟩
theorem of_rounds (l : List S49) (hl : l.length ≤ 4) (ht : Teeth l) : ∀ (d k : Nat) (x p q b : Int), 0 ≤ x → x + d = l.length → 1000000000 < k → d ≤ 4 → Small b p q → 1 ≤ b → b * 120 ^ d ≤ 207360000 →
    ∃ P Q, spec_l03Of.l0 (k + d) l x p q = some (P, Q) ∧ impl_Train_ratio.l0 (k + d) l (l.length : Int) x p q = some (P, Q) ∧ Small 207360000 P Q := by
  intro d
  induction d with
  | zero =>
    intro k x p q b h0 h1 hk hd hs hb hbd
    obtain ⟨k, rfl⟩ : ∃ m, k = m + 1 := ⟨k - 1, by omega⟩
    have p1 : ¬ x < (l.length : Int) := by omega
    simp only [spec_l03Of.l0, impl_Train_ratio.l0, if_neg p1]
    exact ⟨p, q, rfl, rfl, hs.1, by have := hs.2.1; omega, by have := hs.2.2; omega⟩
  | succ d ih =>
    intro k x p q b h0 h1 hk hd hs hb hbd
    have p1 : x < (l.length : Int) := by omega
    have hm := ht _ (rdP_mem l x h0 p1)
    simp only [spec_l03Of.l0, impl_Train_ratio.l0, if_pos p1, if_pos h0, Nat.add_eq]
    generalize (rd_T49 l x).f0 = a at hm ⊢
    generalize (rd_T49 l x).f1 = c at hm ⊢
    have ho := low_ok (p := a) (q := c) (by omega) (by omega) (by omega) (by omega)
    have la := lowP_bd (p := a) (q := c) (by omega)
    have lc := lowQ_bd (p := a) (q := c) (by omega) (by omega)
    have h120 : Small 120 (lowP a c) (lowQ a c) := ⟨⟨la.1, lc.1, low_gcd (by omega)⟩, by omega, by omega⟩
    have hpow : (120 : Int) ^ (d + 1) = 120 * 120 ^ d := by rw [Int.pow_succ, Int.mul_comm]
    have hone : (1 : Int) ≤ 120 ^ d := Int.pow_pos (by decide)
    have hbd2 : (b * 120) * 120 ^ d ≤ 207360000 := by rw [Int.mul_assoc, ← hpow]; exact hbd
    have hb2 : b * 120 ≤ 207360000 := Int.le_trans (by have := Int.mul_le_mul_of_nonneg_left hone (show 0 ≤ b * 120 by omega); rwa [Int.mul_one] at this) hbd2
    have hst := small_times hs h120
    have hp := hs.2.1
    have hq := hs.2.2
    rw [wrT (n := a) (by omega), wrT (n := c) (by omega), wrT (n := x + 1) (by omega)]
    rw [made_eq (k + d) a c (by omega) (by omega) (by omega) (by omega) (by omega) (by omega), if_pos ho, reduced_eq (k + d) a c (by omega) (by omega) (by omega) (by omega) (by omega)]
    simp only [Option.bind_some]
    rw [times_spec (k + d) p q _ _ hs.1 h120.1 (by omega) (by omega) (by omega) (by omega) (by have := hst.2.2; omega) (by omega), times_impl (k + d) p q _ _ hs.1 h120.1 (by omega) (by omega) (by omega) (by omega) (by omega)]
    rw [if_pos (okB_true.mpr ⟨⟨hst.1.1, by have := hst.2.1; omega⟩, ⟨hst.1.2.1, by have := hst.2.2; omega⟩, hst.1.2.2⟩)]
    simp only [Option.bind_some]
    exact ih k (x + 1) _ _ (b * 120) (by omega) (by omega) hk (by omega) hst (by omega) hbd2
theorem of_both (k : Nat) (l : List S49) (hv : trainB l = true) (hk : 1000000010 < k) : ∃ P Q, spec_l03Of.f k l = some (P, Q) ∧ impl_Train_ratio.f k l = some (P, Q) ∧ Small 207360000 P Q := by
  have hl := trainB_len hv
  have ht : Teeth l := trainB_all hv
  have hpow : (120 : Int) ^ l.length ≤ 207360000 := by
    have : l.length = 1 ∨ l.length = 2 ∨ l.length = 3 ∨ l.length = 4 := by omega
    rcases this with h | h | h | h <;> rw [h] <;> decide
  have := of_rounds l hl.2 ht l.length (k - l.length) 0 1 1 1 (by omega) (by omega) (by omega) hl.2 ⟨⟨by omega, by omega, by decide⟩, by omega, by omega⟩ (by omega) (by omega)
  rw [Nat.sub_add_cancel (by omega)] at this
  exact this
end Go.Proofs.Ytdkkmoigampfoaa.Core
