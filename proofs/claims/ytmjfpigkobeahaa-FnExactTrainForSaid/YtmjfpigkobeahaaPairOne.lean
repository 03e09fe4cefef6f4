/- The pair of a ratio with the fewest teeth: both texts. -/
import Derived.Test.YtmjfpigkobeahaaPx30
import Derived.Test.YtmjfpigkobeahaaCore
namespace Go.Proofs.Ytmjfpigkobeahaa.Core
open Go.RowKit Go.Proofs.Ytmjfpigkobeahaa.P Go.Proofs.YtmjfpigkobeahaaW.PrintWords Go.Proofs.YtmjfpigkobeahaaW.PrintMore
/-- The least factor that makes both numbers 8 at least. -/
def leastK (P Q : Int) : Int := (8 + mn P Q - 1) / mn P Q
theorem mn_or (P Q : Int) : (mn P Q = P ∧ P ≤ Q) ∨ (mn P Q = Q ∧ Q ≤ P) := by
  unfold mn
  split
  · exact .inr ⟨rfl, by omega⟩
  · exact .inl ⟨rfl, by omega⟩
theorem mx_or (P Q : Int) : (mx P Q = P ∧ Q ≤ P) ∨ (mx P Q = Q ∧ P ≤ Q) := by
  unfold mx
  split
  · exact .inr ⟨rfl, by omega⟩
  · exact .inl ⟨rfl, by omega⟩
/-- From the least factor on, and only there, both numbers are 8 at least. -/
theorem leastK_iff {P Q k : Int} (hP : 1 ≤ P) (hQ : 1 ≤ Q) (hk : 0 ≤ k) : leastK P Q ≤ k ↔ 8 ≤ k * P ∧ 8 ≤ k * Q := by
  have hm : 1 ≤ mn P Q := by rcases mn_or P Q with h | h <;> omega
  have e : leastK P Q ≤ k ↔ 8 ≤ k * mn P Q := by
    unfold leastK
    rw [← Int.lt_add_one_iff, Int.ediv_lt_iff_lt_mul (by omega), Int.add_mul, Int.one_mul]
    omega
  rw [e]
  constructor
  · intro h
    have a : k * mn P Q ≤ k * P := Int.mul_le_mul_of_nonneg_left (by rcases mn_or P Q with h | h <;> omega) hk
    have b : k * mn P Q ≤ k * Q := Int.mul_le_mul_of_nonneg_left (by rcases mn_or P Q with h | h <;> omega) hk
    omega
  · rintro ⟨h1, h2⟩
    rcases mn_or P Q with h | h <;> rw [h.1] <;> assumption
theorem leastK_bd {P Q : Int} (hP : 1 ≤ P) (hQ : 1 ≤ Q) : 1 ≤ leastK P Q ∧ leastK P Q ≤ 8 := by
  have hm : 1 ≤ mn P Q := by rcases mn_or P Q with h | h <;> omega
  constructor
  · unfold leastK
    exact (Int.le_ediv_iff_mul_le (by omega)).mpr (by omega)
  · exact (leastK_iff hP hQ (by omega)).mpr ⟨by omega, by omega⟩
/-- What comes of it. -/
def pairZ (P Q : Int) : Int × Int × Bool := if mx P Q * leastK P Q > 120 then (0, 0, false) else (IntKind.i16.wrap (P * leastK P Q), IntKind.i16.wrap (Q * leastK P Q), true)
theorem pair_impl {P Q : Int} (hP : 1 ≤ P ∧ P ≤ 1000000000) (hQ : 1 ≤ Q ∧ Q ≤ 1000000000) : impl_pairFor.f P Q = some (pairZ P Q) := by
  have hm : 1 ≤ mn P Q ∧ mn P Q ≤ 1000000000 := by rcases mn_or P Q with h | h <;> omega
  have hx : 1 ≤ mx P Q ∧ mx P Q ≤ 1000000000 := by rcases mx_or P Q with h | h <;> omega
  have hb := leastK_bd hP.1 hQ.1
  have e : wrap64 (Int.tdiv (wrap64 (wrap64 (8 + mn P Q) - 1)) (mn P Q)) = leastK P Q := by
    rw [wr (n := 8 + mn P Q) (by omega), wr (n := 8 + mn P Q - 1) (by omega), Int.tdiv_eq_ediv_of_nonneg (by omega)]
    exact wr (by unfold leastK at hb; omega)
  have m0 : mx P Q * leastK P Q ≤ 1000000000 * 8 := Int.mul_le_mul hx.2 hb.2 (by omega) (by omega)
  have m1 : P * leastK P Q ≤ 1000000000 * 8 := Int.mul_le_mul hP.2 hb.2 (by omega) (by omega)
  have m2 : Q * leastK P Q ≤ 1000000000 * 8 := Int.mul_le_mul hQ.2 hb.2 (by omega) (by omega)
  have z0 : 0 ≤ mx P Q * leastK P Q := Int.mul_nonneg (by omega) (by omega)
  have z1 : 0 ≤ P * leastK P Q := Int.mul_nonneg (by omega) (by omega)
  have z2 : 0 ≤ Q * leastK P Q := Int.mul_nonneg (by omega) (by omega)
  unfold impl_pairFor.f
  rw [if_neg (by omega), e, wr (n := mx P Q * leastK P Q) (by omega), wr (n := P * leastK P Q) (by omega), wr (n := Q * leastK P Q) (by omega)]
  unfold pairZ
  split <;> rfl
/-- The search: below the least factor it goes on, unless a number is too great. -/
theorem pair_rounds {P Q : Int} (hP : 1 ≤ P ∧ P ≤ 1000000000) (hQ : 1 ≤ Q ∧ Q ≤ 1000000000) : ∀ (d k : Nat) (x : Int), 1 ≤ x → x + d = leastK P Q → 2 * d + 2 < k → spec_l03Pair.l0 k x P Q = some (pairZ P Q) := by
  intro d
  induction d with
  | zero =>
    intro k x h0 h1 hk
    obtain ⟨k, rfl⟩ : ∃ m, k = m + 2 := ⟨k - 2, by omega⟩
    have hb := leastK_bd hP.1 hQ.1
    obtain rfl : x = leastK P Q := by omega
    obtain ⟨g1, g2⟩ := (leastK_iff hP.1 hQ.1 (by omega)).mp (Int.le_refl (leastK P Q))
    have m1 : leastK P Q * P ≤ 8 * 1000000000 := Int.mul_le_mul hb.2 hP.2 (by omega) (by omega)
    have m2 : leastK P Q * Q ≤ 8 * 1000000000 := Int.mul_le_mul hb.2 hQ.2 (by omega) (by omega)
    have hx : mx P Q * leastK P Q > 120 ↔ ¬ (leastK P Q * P ≤ 120 ∧ leastK P Q * Q ≤ 120) := by
      rcases mx_or P Q with h | h
      · have a : leastK P Q * Q ≤ leastK P Q * P := Int.mul_le_mul_of_nonneg_left h.2 (by omega)
        rw [h.1, Int.mul_comm P]
        omega
      · have a : leastK P Q * P ≤ leastK P Q * Q := Int.mul_le_mul_of_nonneg_left h.2 (by omega)
        rw [h.1, Int.mul_comm Q]
        omega
    simp only [spec_l03Pair.l0, spec_l03Pair.j1]
    rw [wr (n := leastK P Q * P) (by omega), wr (n := leastK P Q * Q) (by omega)]
    unfold pairZ
    by_cases c1 : leastK P Q * P ≤ 120
    · by_cases c2 : leastK P Q * Q ≤ 120
      · rw [if_pos c1, if_pos (decide_eq_true c2), if_pos g1, if_pos g2, if_neg (by rw [hx]; exact fun h => h ⟨c1, c2⟩), Int.mul_comm P, Int.mul_comm Q]
      · rw [if_pos c1, if_neg (by simpa using c2), if_pos (hx.mpr (fun h => c2 h.2))]
    · rw [if_neg c1, if_neg (by decide), if_pos (hx.mpr (fun h => c1 h.1))]
  | succ d ih =>
    intro k x h0 h1 hk
    obtain ⟨k, rfl⟩ : ∃ m, k = m + 2 := ⟨k - 2, by omega⟩
    have hb := leastK_bd hP.1 hQ.1
    have hx8 : x ≤ 8 := by omega
    have g : ¬ (8 ≤ x * P ∧ 8 ≤ x * Q) := fun h => by have := (leastK_iff hP.1 hQ.1 (show 0 ≤ x by omega)).mpr h; omega
    have m1 : x * P ≤ 8 * 1000000000 := Int.mul_le_mul hx8 hP.2 (by omega) (by omega)
    have m2 : x * Q ≤ 8 * 1000000000 := Int.mul_le_mul hx8 hQ.2 (by omega) (by omega)
    have z1 : 0 ≤ x * P := Int.mul_nonneg (by omega) (by omega)
    have z2 : 0 ≤ x * Q := Int.mul_nonneg (by omega) (by omega)
    have n1 : x * P ≤ leastK P Q * P := Int.mul_le_mul_of_nonneg_right (by omega) (by omega)
    have n2 : x * Q ≤ leastK P Q * Q := Int.mul_le_mul_of_nonneg_right (by omega) (by omega)
    have hbig : ¬ (x * P ≤ 120 ∧ x * Q ≤ 120) → mx P Q * leastK P Q > 120 := by
      intro h
      rcases mx_or P Q with e | e
      · have a : x * Q ≤ x * P := Int.mul_le_mul_of_nonneg_left e.2 (by omega)
        rw [e.1, Int.mul_comm P]
        omega
      · have a : x * P ≤ x * Q := Int.mul_le_mul_of_nonneg_left e.2 (by omega)
        rw [e.1, Int.mul_comm Q]
        omega
    simp only [spec_l03Pair.l0, spec_l03Pair.j1]
    rw [wr (n := x * P) (by omega), wr (n := x * Q) (by omega), wr (n := x + 1) (by omega)]
    by_cases c1 : x * P ≤ 120
    · by_cases c2 : x * Q ≤ 120
      · rw [if_pos c1, if_pos (decide_eq_true c2)]
        by_cases c3 : x * P ≥ 8
        · rw [if_pos c3, if_neg (fun h => g ⟨c3, h⟩)]
          exact ih k (x + 1) (by omega) (by omega) (by omega)
        · rw [if_neg c3]
          exact ih k (x + 1) (by omega) (by omega) (by omega)
      · rw [if_pos c1, if_neg (by simpa using c2)]
        unfold pairZ
        rw [if_pos (hbig (fun h => c2 h.2))]
    · rw [if_neg c1, if_neg (by decide)]
      unfold pairZ
      rw [if_pos (hbig (fun h => c1 h.1))]
theorem pair_spec {P Q : Int} (hP : 1 ≤ P ∧ P ≤ 1000000000) (hQ : 1 ≤ Q ∧ Q ≤ 1000000000) (k : Nat) (hk : 30 < k) : spec_l03Pair.f k P Q = some (pairZ P Q) := by
  have hb := leastK_bd hP.1 hQ.1
  unfold spec_l03Pair.f
  exact pair_rounds hP hQ (leastK P Q - 1).toNat k 1 (by omega) (by omega) (by omega)
end Go.Proofs.Ytmjfpigkobeahaa.Core
