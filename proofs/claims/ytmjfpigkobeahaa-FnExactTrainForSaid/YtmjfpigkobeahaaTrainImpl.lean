/- Trains of two pairs: the program's search, and both texts together. -/
import Derived.Test.YtmjfpigkobeahaaPx33
import Derived.Test.YtmjfpigkobeahaaPx32
import Derived.Test.YtmjfpigkobeahaaPx30
import Derived.Test.YtmjfpigkobeahaaTrainSpec
namespace Go.Proofs.Ytmjfpigkobeahaa.Core
open Go.RowKit Go.Proofs.Ytmjfpigkobeahaa.P Go.Proofs.YtmjfpigkobeahaaW.PrintWords Go.Proofs.YtmjfpigkobeahaaW.PrintMore
section
variable {P Q : Int} (hc : Cop P Q) (hP : P ≤ 14400) (hQ : Q ≤ 14400)
include hc hP hQ
theorem i1_loop {a : Int} (ha : 8 ≤ a ∧ a ≤ 120) : ∀ (n k : Nat) (b : Int) (l : List S79) (least : Int), 8 ≤ b → b + n = 121 → IInv P Q a b l least → 1000000000 < k →
    ∃ l' least', IInv P Q (a + 1) 8 l' least' ∧ impl_twoPairs.l1 (k + n + 1) l least a b P Q = impl_twoPairs.l0 k l' least' (a + 1) P Q := by
  intro n
  induction n with
  | zero =>
    intro k b l least h0 h1 hi hk
    refine ⟨l, least, ?_, ?_⟩
    · have key : ∀ a' b' c' d', InS P Q a' b' c' d' → (a' < a + 1 ∨ a' = a + 1 ∧ b' < 8) → (a' < a ∨ a' = a ∧ b' < b) := by
        intro a' b' c' d' hs hv
        obtain ⟨s1, s2, s3, s4, _⟩ := hs
        omega
      rcases hi with ⟨h1, h2, h3⟩ | ⟨B0, B1, B2, B3, h1, h2, h3, h4, h5⟩
      · exact .inl ⟨h1, h2, fun a' b' c' d' hs hv => h3 a' b' c' d' hs (key a' b' c' d' hs hv)⟩
      · exact .inr ⟨B0, B1, B2, B3, h1, h2, h3, by omega, fun a' b' c' d' hs hv => h5 a' b' c' d' hs (key a' b' c' d' hs hv)⟩
    · rw [impl_twoPairs.l1, if_neg (by omega), wr (n := a + 1) (by omega)]
  | succ n ih =>
    intro k b l least h0 h1 hi hk
    have hb : 8 ≤ b ∧ b ≤ 120 := ⟨h0, by omega⟩
    have l0 := lowP_bd (p := b) (q := a) (by omega)
    have l1 := lowQ_bd (p := b) (q := a) (by omega) (by omega)
    have hs : Cop (lowP b a) (lowQ b a) := ⟨l0.1, l1.1, low_gcd (by omega)⟩
    have hr := rest_cop hc (a := a) (b := b) (by omega) (by omega)
    have hbd := rest_bd hc (a := a) (b := b) (by omega) (by omega) hP hQ
    rw [show k + (n + 1) + 1 = (k + n + 1) + 1 by omega, impl_twoPairs.l1, if_pos hb.2, reduced_eq (k + n + 1) b a (by omega) (by omega) (by omega) (by omega) (by omega)]
    simp only [Option.bind_some]
    rw [times_impl (k + n + 1) P Q _ _ hc hs (by omega) (by omega) (by omega) (by omega) (by omega)]
    simp only [Option.bind_some]
    have hpi := pair_impl (P := restP P Q a b) (Q := restQ P Q a b) ⟨hr.1, by omega⟩ ⟨hr.2.1, by omega⟩
    unfold restP restQ at hpi
    rw [hpi]
    simp only [Option.bind_some]
    have hf := pair_found hc ha hb
    unfold restP restQ at hf
    generalize pairZ (tP P Q (lowP b a) (lowQ b a)) (tQ P Q (lowP b a) (lowQ b a)) = z at hf ⊢
    rw [wr (n := b + 1) (by omega)]
    rcases hf with ⟨e, hn⟩ | ⟨c, d, e, hin, hm⟩
    · rw [if_neg (by rw [e]; decide)]
      exact ih k (b + 1) l least (by omega) (by omega) (hi.none_at hn) hk
    · subst e
      have hin' := hin
      obtain ⟨_, _, r3, r4, _⟩ := hin'
      simp only [if_true]
      rw [wr (n := a + b) (by omega), wr (n := c) (by omega), wr (n := d) (by omega), wr (n := a + b + c) (by omega), wr (n := a + b + c + d) (by omega), w16 (x := a) (by omega), w16 (x := b) (by omega)]
      by_cases hl : a + b + c + d < least
      · rw [if_pos hl]
        exact ih k (b + 1) _ _ (by omega) (by omega) (hi.less hin hm hl) hk
      · rw [if_neg hl]
        exact ih k (b + 1) l least (by omega) (by omega) (hi.more hin hm hl) hk
theorem i0_loop : ∀ (n k : Nat) (a : Int) (l : List S79) (least : Int), 8 ≤ a → a + n = 121 → IInv P Q a 8 l least → 1000000010 + 120 * n < k →
    ∃ l' least', IInv P Q 121 8 l' least' ∧ impl_twoPairs.l0 k l least a P Q = some (l', decide ((l'.length : Int) > 0)) := by
  intro n
  induction n with
  | zero =>
    intro k a l least h0 h1 hi hk
    obtain ⟨k, rfl⟩ : ∃ m, k = m + 1 := ⟨k - 1, by omega⟩
    obtain rfl : a = 121 := by omega
    refine ⟨l, least, hi, ?_⟩
    rw [impl_twoPairs.l0, if_neg (by omega)]
  | succ n ih =>
    intro k a l least h0 h1 hi hk
    obtain ⟨k, rfl⟩ : ∃ m, k = m + 113 + 1 + 1 := ⟨k - 115, by omega⟩
    obtain ⟨l', least', hi', e⟩ := i1_loop hc hP hQ (a := a) ⟨h0, by omega⟩ 113 k 8 l least (by omega) (by omega) hi (by omega)
    rw [impl_twoPairs.l0, if_pos (by omega), e]
    exact ih k (a + 1) l' least' (by omega) (by omega) hi' (by omega)
end
theorem search_both {P Q : Int} (hc : Cop P Q) (hP : P ≤ 1000000000) (hQ : Q ≤ 1000000000) (k : Nat) (hk : 1000100000 < k) : ∃ r c, spec_TrainFor.l0 k 0 8 P Q 0 0 0 0 = some (r, c) ∧
    ((impl_twoPairs.f k P Q).bind fun x => (if x.2 = true then some (x.1, 0) else some (([] : List (S79)), 6))) = some (r, c) ∧ r.length ≤ 2 := by
  obtain ⟨l, C0, C1, C2, C3, hi, e⟩ := l0_loop hc hP hQ 113 k 8 0 0 0 0 0 (by omega) (by omega) (.inl ⟨rfl, fun a b c d hs hv => by
    obtain ⟨s1, s2, s3, s4, _⟩ := hs
    simp only [Vis] at hv
    omega⟩) (by omega)
  rw [e]
  unfold impl_twoPairs.f
  by_cases hbig : mx P Q > 14400
  · have hnone : ∀ a b c d, ¬ InS P Q a b c d := fun a b c d h => by
      have := inS_small hc h
      rcases mx_or P Q with h | h <;> rw [h.1] at hbig <;> omega
    rcases hi with ⟨h1, _⟩ | ⟨_, h2, _⟩
    · rw [if_pos h1, if_pos hbig]
      exact ⟨_, _, rfl, rfl, by simp⟩
    · exact absurd h2 (hnone _ _ _ _)
  · have hsm : P ≤ 14400 ∧ Q ≤ 14400 := by
      rcases mx_or P Q with h | h <;> rw [h.1] at hbig <;> omega
    rw [if_neg hbig]
    obtain ⟨l', least', hi', e'⟩ := i0_loop hc hsm.1 hsm.2 113 k 8 [] 481 (by omega) (by omega) (.inl ⟨rfl, rfl, fun a b c d hs hv => by
      obtain ⟨s1, s2, s3, s4, _⟩ := hs
      omega⟩) (by omega)
    rw [e']
    simp only [Option.bind_some]
    rcases hi with ⟨h1, h2⟩ | ⟨h1, h2, h3⟩
    · rcases hi' with ⟨g1, g2, g3⟩ | ⟨B0, B1, B2, B3, g1, g2, g3, g4, g5⟩
      · subst g1
        rw [if_pos h1]
        exact ⟨_, _, rfl, rfl, by simp⟩
      · exact absurd trivial (h2 _ _ _ _ g3)
    · have h2' := h2
      obtain ⟨s1, s2, s3, s4, _⟩ := h2'
      rcases hi' with ⟨g1, g2, g3⟩ | ⟨B0, B1, B2, B3, g1, g2, g3, g4, g5⟩
      · exact absurd (.inl (by omega)) (g3 _ _ _ _ h2)
      · have k1 := h3 _ _ _ _ g3 trivial
        have k2 := g5 _ _ _ _ h2 (.inl (by omega))
        obtain ⟨rfl, rfl, rfl, rfl⟩ := keyT_inj h2 g3 (by omega)
        subst g1
        rw [if_neg (by omega), w16 (x := C0) (by omega), w16 (x := C1) (by omega), w16 (x := C2) (by omega), w16 (x := C3) (by omega)]
        exact ⟨_, _, rfl, rfl, by simp⟩
theorem train_both (k : Nat) (P Q : Int) (hk : 1000100000 < k) : ∃ r c, spec_TrainFor.f k P Q = some (r, c) ∧ impl_TrainFor.f k P Q = some (r, c) ∧ r.length ≤ 2 := by
  unfold spec_TrainFor.f impl_TrainFor.f spec_PairFor.f
  rw [ok_spec k P Q (by omega), ok_impl k P Q (by omega)]
  simp only [Option.bind_some]
  by_cases h : okB P Q = true
  · have ho := okB_true.mp h
    have hc : Cop P Q := ⟨ho.1.1, ho.2.1.1, ho.2.2⟩
    simp only [if_pos h, pair_spec ho.1 ho.2.1 k (by omega), pair_impl ho.1 ho.2.1, Option.bind_some]
    by_cases hb : (pairZ P Q).2.2 = true
    · have h06 : ¬ (0 : Int) = 6 := by decide
      simp only [if_pos hb, Option.bind_some, if_neg h06]
      exact ⟨_, _, rfl, rfl, by simp⟩
    · simp only [if_neg hb, Option.bind_some, if_true]
      exact search_both hc ho.1.2 ho.2.1.2 k hk
  · have h16 : ¬ (1 : Int) = 6 := by decide
    simp only [if_neg h, Option.bind_some, if_neg h16]
    exact ⟨_, _, rfl, rfl, by simp⟩
end Go.Proofs.Ytmjfpigkobeahaa.Core
