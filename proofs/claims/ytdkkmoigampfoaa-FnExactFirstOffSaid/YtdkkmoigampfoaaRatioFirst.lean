/- Where a train is off first, by both texts. -/
import Derived.Test.YtdkkmoigampfoaaRatioCore
import Derived.Test.YtdkkmoigampfoaaPx16
import Derived.Test.YtdkkmoigampfoaaPx17
namespace Go.Proofs.Ytdkkmoigampfoaa.Core
open Go.RowKit Go.Proofs.Ytdkkmoigampfoaa.P Go.Proofs.YtdkkmoigampfoaaW.PrintWords
theorem turn_bd {c p q : Int} (hc : 1 ≤ c) (hc2 : c ≤ 100000) (hp : 1 ≤ p) (hp2 : p ≤ 1000000000) (hq : 1 ≤ q) : 0 ≤ Int.tdiv (c * p) q ∧ Int.tdiv (c * p) q ≤ 100000000000000 ∧ 1 ≤ c * p ∧ c * p ≤ 100000000000000 := by
  have h := mul_bd hc hp hc2 hp2
  rw [Int.tdiv_eq_ediv_of_nonneg (by omega)]
  have h2 : (c * p) / q ≤ c * p := Int.ediv_le_self _ (by omega)
  have h3 : 0 ≤ (c * p) / q := Int.ediv_nonneg (by omega) (by omega)
  omega
theorem first_rounds (m p q P Q : Int) (hm : m ≤ 100000) (hp : 1 ≤ p) (hp2 : p ≤ 1000000000) (hq : 1 ≤ q) (hP : 1 ≤ P) (hP2 : P ≤ 1000000000) (hQ : 1 ≤ Q) : ∀ (d k : Nat) (c : Int), 1 ≤ c → c + d = m + 1 → d < k →
    ∃ r, spec_FirstOff.l0 k m c p q P Q = some r ∧ impl_FirstOff.l0 k m c p q P Q = some r := by
  intro d
  induction d with
  | zero =>
    intro k c h0 h1 hk
    obtain ⟨k, rfl⟩ : ∃ m, k = m + 1 := ⟨k - 1, by omega⟩
    have p1 : ¬ c ≤ m := by omega
    simp only [spec_FirstOff.l0, impl_FirstOff.l0, if_neg p1]
    exact ⟨_, rfl, rfl⟩
  | succ d ih =>
    intro k c h0 h1 hk
    obtain ⟨k, rfl⟩ : ∃ m, k = m + 1 := ⟨k - 1, by omega⟩
    have p1 : c ≤ m := by omega
    have nQ : ¬ Q = 0 := by omega
    have nq : ¬ q = 0 := by omega
    have t1 := turn_bd (c := c) h0 (by omega) hP hP2 hQ
    have t2 := turn_bd (c := c) h0 (by omega) hp hp2 hq
    simp only [spec_FirstOff.l0, impl_FirstOff.l0, if_pos p1, spec_l03Off.f, impl_Ratio_turns.f, if_neg nQ, if_neg nq, Option.bind_some]
    rw [wrT (n := c * P) (by omega), wrT (n := c * p) (by omega), wrT (n := Int.tdiv (c * P) Q) (by omega), wrT (n := Int.tdiv (c * p) q) (by omega), wrT (n := c + 1) (by omega), wrT (by omega)]
    by_cases e : Int.tdiv (c * P) Q = Int.tdiv (c * p) q
    · rw [if_pos e, if_pos (by omega)]
      exact ih k (c + 1) (by omega) (by omega) (by omega)
    · rw [if_neg e, if_neg (by omega)]
      exact ⟨_, rfl, rfl⟩
theorem first_both (k : Nat) (l : List S49) (p q a : Int) (hl : l.length ≤ 1048576) (hs : Shorts l) (hk : 1000000010 < k) : ∃ r, spec_FirstOff.f (k + 1) l p q a = some r ∧ impl_FirstOff.f (k + 1) l p q a = some r := by
  unfold spec_FirstOff.f impl_FirstOff.f impl_ValidTrain.f
  rw [train_spec (k + 1) l hl hs (by omega), ok_spec (k + 1) p q (by omega), ok_impl (k + 1) p q (by omega)]
  simp only [Option.bind_some]
  by_cases h : trainB l = true
  · obtain ⟨P, Q, h1, h2, h3⟩ := of_both k l h hk
    by_cases h4 : okB p q = true
    · have ho := okB_true.mp h4
      simp only [if_pos h, h4, spec_FirstOff.j0, impl_FirstOff.j0, Bool.not_true, Bool.false_eq_true, if_false, inT_eq, within_eq, Option.bind_some, h1, h2, decide_eq_true_eq]
      by_cases ha : 1 ≤ a ∧ a ≤ 100000
      · simp only [if_pos ha]
        exact first_rounds a p q P Q ha.2 ho.1.1 ho.1.2 ho.2.1.1 h3.1.1 (by have := h3.2.1; omega) h3.1.2.1 a.toNat k 1 (by omega) (by omega) (by omega)
      · simp only [if_neg ha]
        exact ⟨_, rfl, rfl⟩
    · have h5 : okB p q = false := by simpa using h4
      simp only [if_pos h, h5, spec_FirstOff.j0, impl_FirstOff.j0, Bool.not_false, if_true]
      exact ⟨_, rfl, rfl⟩
  · simp only [if_neg h, spec_FirstOff.j0, impl_FirstOff.j0, if_true]
    exact ⟨_, rfl, rfl⟩
end Go.Proofs.Ytdkkmoigampfoaa.Core
