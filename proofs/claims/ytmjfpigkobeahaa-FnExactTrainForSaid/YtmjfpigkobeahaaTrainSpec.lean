/- Trains of two pairs: the reference's search. -/
import Derived.Test.YtmjfpigkobeahaaPx35
import Derived.Test.YtmjfpigkobeahaaTrainLaw
namespace Go.Proofs.Ytmjfpigkobeahaa.Core
open Go.RowKit Go.Proofs.Ytmjfpigkobeahaa.P Go.Proofs.YtmjfpigkobeahaaW.PrintWords Go.Proofs.YtmjfpigkobeahaaW.PrintMore
theorem S_new {P Q l B0 B1 B2 B3 a b c d : Int} {V : Int → Int → Int → Int → Prop} (h : SInv P Q V l B0 B1 B2 B3) (hs : InS P Q a b c d) (hu : ∀ c', InS P Q a b c' d → c' = c) (hk : l = 0 ∨ keyT a b c d ≤ keyT B0 B1 B2 B3) :
    SInv P Q (fun a' b' c' d' => V a' b' c' d' ∨ (a' = a ∧ b' = b ∧ d' = d)) (a + b + c + d) a b c d := by
  refine .inr ⟨rfl, hs, fun a' b' c' d' hs' hv => ?_⟩
  rcases hv with hv | ⟨rfl, rfl, rfl⟩
  · rcases h with ⟨h1, h2⟩ | ⟨h1, h2, h3⟩
    · exact absurd hv (h2 _ _ _ _ hs')
    · have h4 := h3 _ _ _ _ hs' hv
      obtain ⟨q1, q2, q3, q4, _⟩ := h2
      omega
  · rw [hu c' hs']
    exact Int.le_refl _
theorem S_old {P Q l B0 B1 B2 B3 a b c d : Int} {V : Int → Int → Int → Int → Prop} (h : SInv P Q V l B0 B1 B2 B3) (hu : ∀ c', InS P Q a b c' d → c' = c) (hl : l ≠ 0) (hk : keyT B0 B1 B2 B3 ≤ keyT a b c d) :
    SInv P Q (fun a' b' c' d' => V a' b' c' d' ∨ (a' = a ∧ b' = b ∧ d' = d)) l B0 B1 B2 B3 := by
  rcases h with ⟨h1, h2⟩ | ⟨h1, h2, h3⟩
  · exact absurd h1 hl
  · refine .inr ⟨h1, h2, fun a' b' c' d' hs' hv => ?_⟩
    rcases hv with hv | ⟨rfl, rfl, rfl⟩
    · exact h3 _ _ _ _ hs' hv
    · rw [hu c' hs']
      exact hk
theorem befB_key {P Q B0 B1 B2 B3 a b c d : Int} (h : InS P Q B0 B1 B2 B3) (hs : InS P Q a b c d) (he : a + b + c + d = B0 + B1 + B2 + B3) :
    (befB [a, b, c, d] [B0, B1, B2, B3] = true → keyT a b c d ≤ keyT B0 B1 B2 B3) ∧ (befB [a, b, c, d] [B0, B1, B2, B3] = false → keyT B0 B1 B2 B3 ≤ keyT a b c d) := by
  obtain ⟨q1, q2, q3, q4, _⟩ := h
  obtain ⟨s1, s2, s3, s4, _⟩ := hs
  unfold keyT
  simp only [befB]
  repeat' split
  all_goals
    refine ⟨fun h => ?_, fun h => ?_⟩
    all_goals (simp at h; try omega)
theorem S_pick {α : Type} {P Q l B0 B1 B2 B3 a b c d : Int} {V : Int → Int → Int → Int → Prop} (h : SInv P Q V l B0 B1 B2 B3) (hs : InS P Q a b c d) (hu : ∀ c', InS P Q a b c' d → c' = c) (A : Int → Int → Int → Int → Int → α) :
    ∃ l' C0 C1 C2 C3, SInv P Q (fun a' b' c' d' => V a' b' c' d' ∨ (a' = a ∧ b' = b ∧ d' = d)) l' C0 C1 C2 C3 ∧
      (if l = 0 then A (a + b + c + d) a b c d else if a + b + c + d < l then A (a + b + c + d) a b c d else if a + b + c + d = l then (if befB [a, b, c, d] [B0, B1, B2, B3] = true then A (a + b + c + d) a b c d else A l B0 B1 B2 B3) else A l B0 B1 B2 B3) = A l' C0 C1 C2 C3 := by
  by_cases h0 : l = 0
  · exact ⟨_, _, _, _, _, S_new h hs hu (.inl h0), if_pos h0⟩
  · rw [if_neg h0]
    have hh := h
    rcases hh with ⟨h1, _⟩ | ⟨h1, h2, _⟩
    · exact absurd h1 h0
    · have hb := befB_key h2 hs
      obtain ⟨q1, q2, q3, q4, _⟩ := h2
      obtain ⟨s1, s2, s3, s4, _⟩ := id hs
      by_cases c1 : a + b + c + d < l
      · rw [if_pos c1]
        exact ⟨_, _, _, _, _, S_new h hs hu (.inr (by unfold keyT; omega)), rfl⟩
      · rw [if_neg c1]
        by_cases c2 : a + b + c + d = l
        · rw [if_pos c2]
          by_cases c3 : befB [a, b, c, d] [B0, B1, B2, B3] = true
          · rw [if_pos c3]
            exact ⟨_, _, _, _, _, S_new h hs hu (.inr ((hb (by omega)).1 c3)), rfl⟩
          · rw [if_neg c3]
            exact ⟨_, _, _, _, _, S_old h hu h0 ((hb (by omega)).2 (by simpa using c3)), rfl⟩
        · rw [if_neg c2]
          exact ⟨_, _, _, _, _, S_old h hu h0 (by unfold keyT; omega), rfl⟩
/-- What has been looked at when (b, d, a) comes up. -/
def Vis (b d a : Int) : Int → Int → Int → Int → Prop := fun a' b' _ d' => b' < b ∨ (b' = b ∧ (d' < d ∨ (d' = d ∧ a' < a)))
theorem teeth_eq (n : Int) : spec_l03Teeth.f n = some (decide (8 ≤ n ∧ n ≤ 120)) := by
  unfold spec_l03Teeth.f
  rw [in_eq]
  rfl
section
variable {P Q : Int} (hc : Cop P Q) (hP : P ≤ 1000000000) (hQ : Q ≤ 1000000000)
include hc hP hQ
theorem m_bd {b d : Int} (hb : 8 ≤ b ∧ b ≤ 120) (hd : 8 ≤ d ∧ d ≤ 120) : (64 ≤ b * d ∧ b * d ≤ 14400) ∧ (0 ≤ b * d / Q ∧ b * d / Q ≤ 14400) ∧ 0 ≤ b * d / Q * P ∧ b * d / Q * P ≤ 14400000000000 := by
  have m2 : b * d ≤ 120 * 120 := Int.mul_le_mul hb.2 hd.2 (by omega) (by omega)
  have m3 : 8 * 8 ≤ b * d := Int.mul_le_mul hb.1 hd.1 (by omega) (by omega)
  have h1 : 0 ≤ b * d / Q := Int.ediv_nonneg (by omega) (by have := hc.2.1; omega)
  have h2 : b * d / Q ≤ b * d := Int.ediv_le_self _ (by omega)
  have h3 : b * d / Q * P ≤ 14400 * 1000000000 := Int.mul_le_mul (by omega) hP (by have := hc.1; omega) (by omega)
  have h4 : 0 ≤ b * d / Q * P := Int.mul_nonneg h1 (by have := hc.1; omega)
  exact ⟨⟨by omega, by omega⟩, ⟨h1, by omega⟩, h4, by omega⟩
theorem l2_loop {b d : Int} (hb : 8 ≤ b ∧ b ≤ 120) (hd : 8 ≤ d ∧ d ≤ 120) (hz : Int.tmod (b * d) Q = 0) : ∀ (n k : Nat) (a l B0 B1 B2 B3 : Int), 8 ≤ a → a + n = 121 → SInv P Q (Vis b d a) l B0 B1 B2 B3 →
    ∃ l' C0 C1 C2 C3, SInv P Q (Vis b (d + 1) 8) l' C0 C1 C2 C3 ∧ spec_TrainFor.l2 (k + 2 * n + 1) l b d (b * d / Q * P) a P Q B0 B1 B2 B3 = spec_TrainFor.l1 k l' b (d + 1) P Q C0 C1 C2 C3 := by
  intro n
  obtain ⟨b1, b2, b3, b4⟩ := m_bd hc hP hQ hb hd
  induction n with
  | zero =>
    intro k a l B0 B1 B2 B3 h0 h1 hi
    refine ⟨l, B0, B1, B2, B3, hi.mono fun a' b' c' d' hs hv => ?_, ?_⟩
    · obtain ⟨s1, s2, s3, s4, _⟩ := hs
      simp only [Vis] at hv ⊢
      omega
    · simp only [spec_TrainFor.l2]
      rw [if_neg (by omega), wr (n := d + 1) (by omega)]
  | succ n ih =>
    intro k a l B0 B1 B2 B3 h0 h1 hi
    have ha : 8 ≤ a ∧ a ≤ 120 := ⟨h0, by omega⟩
    have hsp := fun c => (inS_spec hc hb hd).2 hz a c ha
    have no_c : (∀ c, ¬ InS P Q a b c d) → ∃ l' C0 C1 C2 C3, SInv P Q (Vis b (d + 1) 8) l' C0 C1 C2 C3 ∧ spec_TrainFor.l2 (k + 2 * n + 1) l b d (b * d / Q * P) (a + 1) P Q B0 B1 B2 B3 = spec_TrainFor.l1 k l' b (d + 1) P Q C0 C1 C2 C3 := fun hn => by
      refine ih k (a + 1) l B0 B1 B2 B3 (by omega) (by omega) (hi.mono fun a' b' c' d' hs hv => ?_)
      simp only [Vis] at hv ⊢
      by_cases e : a' = a ∧ b' = b ∧ d' = d
      · obtain ⟨rfl, rfl, rfl⟩ := e
        exact absurd hs (hn c')
      · omega
    rw [show k + 2 * (n + 1) + 1 = (k + 2 * n + 1) + 2 by omega]
    rw [spec_TrainFor.l2, if_pos ha.2, if_neg (by omega), Int.tdiv_eq_ediv_of_nonneg b3]
    by_cases h2 : Int.tmod (b * d / Q * P) a = 0
    · have c1 : 0 ≤ b * d / Q * P / a := Int.ediv_nonneg b3 (by omega)
      have c2 : b * d / Q * P / a ≤ b * d / Q * P := Int.ediv_le_self _ b3
      rw [if_pos h2, wr (n := b * d / Q * P / a) (by omega), teeth_eq]
      simp only [Option.bind_some]
      by_cases h3 : 8 ≤ b * d / Q * P / a ∧ b * d / Q * P / a ≤ 120
      · have hs : InS P Q a b (b * d / Q * P / a) d := (hsp _).mpr ⟨h2, rfl, h3⟩
        have hu : ∀ c', InS P Q a b c' d → c' = b * d / Q * P / a := fun c' h => ((hsp c').mp h).2.1
        rw [decide_eq_true h3, spec_TrainFor.j3, if_neg (by decide), if_neg (by omega), Int.tdiv_eq_ediv_of_nonneg b3]
        generalize b * d / Q * P / a = c at *
        rw [wr (n := c) (by omega), wr (n := a + b) (by omega), wr (n := a + b + c) (by omega), wr (n := a + b + c + d) (by omega), wr (n := a + 1) (by omega)]
        simp only [spec_l03Before.f, Option.bind_some]
        obtain ⟨l', C0, C1, C2, C3, hi', e⟩ := S_pick hi hs hu (fun l0 x0 x1 x2 x3 => spec_TrainFor.l2 (k + 2 * n + 1) l0 b d (b * d / Q * P) (a + 1) P Q x0 x1 x2 x3)
        rw [e]
        refine ih k (a + 1) l' C0 C1 C2 C3 (by omega) (by omega) (hi'.mono fun a' b' c' d' _ hv => ?_)
        simp only [Vis] at hv ⊢
        omega
      · rw [decide_eq_false h3, spec_TrainFor.j3, if_pos (by decide), wr (n := a + 1) (by omega)]
        exact no_c fun c h => h3 (by have := (hsp c).mp h; rw [← this.2.1]; exact this.2.2)
    · rw [if_neg h2, spec_TrainFor.j3, if_pos rfl, wr (n := a + 1) (by omega)]
      exact no_c fun c h => h2 ((hsp c).mp h).1
theorem l1_loop {b : Int} (hb : 8 ≤ b ∧ b ≤ 120) (K : Nat) : ∀ (n k : Nat) (d l B0 B1 B2 B3 : Int), 8 ≤ d → d + n = 121 → SInv P Q (Vis b d 8) l B0 B1 B2 B3 → 228 * n + 1 + K ≤ k →
    ∃ k' l' C0 C1 C2 C3, K ≤ k' ∧ SInv P Q (Vis (b + 1) 8 8) l' C0 C1 C2 C3 ∧ spec_TrainFor.l1 k l b d P Q B0 B1 B2 B3 = spec_TrainFor.l0 k' l' (b + 1) P Q C0 C1 C2 C3 := by
  intro n
  induction n with
  | zero =>
    intro k d l B0 B1 B2 B3 h0 h1 hi hk
    obtain ⟨k, rfl⟩ : ∃ m, k = m + 1 := ⟨k - 1, by omega⟩
    refine ⟨k, l, B0, B1, B2, B3, by omega, hi.mono fun a' b' c' d' hs hv => ?_, ?_⟩
    · obtain ⟨s1, s2, s3, s4, _⟩ := hs
      simp only [Vis] at hv ⊢
      omega
    · rw [spec_TrainFor.l1, if_neg (by omega), wr (n := b + 1) (by omega)]
  | succ n ih =>
    intro k d l B0 B1 B2 B3 h0 h1 hi hk
    have hd : 8 ≤ d ∧ d ≤ 120 := ⟨h0, by omega⟩
    obtain ⟨b1, b2, b3, b4⟩ := m_bd hc hP hQ hb hd
    obtain ⟨k, rfl⟩ : ∃ m, k = m + 1 := ⟨k - 1, by omega⟩
    rw [spec_TrainFor.l1, if_pos hd.2, if_neg (by have := hc.2.1; omega), wr (n := b * d) (by omega)]
    by_cases hz : Int.tmod (b * d) Q = 0
    · obtain ⟨k, rfl⟩ : ∃ m, k = m + 2 * 113 + 1 := ⟨k - 227, by omega⟩
      rw [if_pos hz, Int.tdiv_eq_ediv_of_nonneg (by omega), wr (n := b * d / Q) (by omega), wr (n := b * d / Q * P) (by omega)]
      obtain ⟨l', C0, C1, C2, C3, hi', e⟩ := l2_loop hc hP hQ hb hd hz 113 k 8 l B0 B1 B2 B3 (by omega) (by omega) hi
      rw [e]
      exact ih k (d + 1) l' C0 C1 C2 C3 (by omega) (by omega) hi' (by omega)
    · rw [if_neg hz, wr (n := d + 1) (by omega)]
      refine ih k (d + 1) l B0 B1 B2 B3 (by omega) (by omega) (hi.mono fun a' b' c' d' hs hv => ?_) (by omega)
      have hn := (inS_spec hc hb hd).1 hz
      simp only [Vis] at hv ⊢
      by_cases e : b' = b ∧ d' = d
      · obtain ⟨rfl, rfl⟩ := e
        exact absurd hs (hn a' c')
      · obtain ⟨s1, s2, s3, s4, _⟩ := hs
        omega
theorem l0_loop : ∀ (n k : Nat) (b l B0 B1 B2 B3 : Int), 8 ≤ b → b + n = 121 → SInv P Q (Vis b 8 8) l B0 B1 B2 B3 → 30000 * n + 2 ≤ k →
    ∃ l' C0 C1 C2 C3, SInv P Q (fun _ _ _ _ => True) l' C0 C1 C2 C3 ∧ spec_TrainFor.l0 k l b P Q B0 B1 B2 B3 = if l' = 0 then some ([], 6) else some ([⟨IntKind.i16.wrap C0, IntKind.i16.wrap C1⟩, ⟨IntKind.i16.wrap C2, IntKind.i16.wrap C3⟩], 0) := by
  intro n
  induction n with
  | zero =>
    intro k b l B0 B1 B2 B3 h0 h1 hi hk
    obtain ⟨k, rfl⟩ : ∃ m, k = m + 1 := ⟨k - 1, by omega⟩
    refine ⟨l, B0, B1, B2, B3, hi.mono fun a' b' c' d' hs _ => ?_, ?_⟩
    · obtain ⟨s1, s2, s3, s4, _⟩ := hs
      simp only [Vis]
      omega
    · rw [spec_TrainFor.l0, if_neg (by omega)]
  | succ n ih =>
    intro k b l B0 B1 B2 B3 h0 h1 hi hk
    obtain ⟨k, rfl⟩ : ∃ m, k = m + 1 := ⟨k - 1, by omega⟩
    obtain ⟨k', l', C0, C1, C2, C3, hk', hi', e⟩ := l1_loop hc hP hQ (b := b) ⟨h0, by omega⟩ (30000 * n + 2) 113 k 8 l B0 B1 B2 B3 (by omega) (by omega) hi (by omega)
    rw [spec_TrainFor.l0, if_pos (by omega), e]
    exact ih k' (b + 1) l' C0 C1 C2 C3 (by omega) (by omega) hi' hk'
end
end Go.Proofs.Ytmjfpigkobeahaa.Core
