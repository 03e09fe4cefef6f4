/- Trains of two pairs with a ratio: which one is the least, in plain numbers. -/
import Derived.Test.YtmjfpigkobeahaaLow2
import Derived.Test.YtmjfpigkobeahaaPairOne
namespace Go.Proofs.Ytmjfpigkobeahaa.Core
open Go.RowKit Go.Proofs.Ytmjfpigkobeahaa.P Go.Proofs.YtmjfpigkobeahaaW.PrintWords
/-- A train of two pairs with the ratio P / Q. -/
def InS (P Q a b c d : Int) : Prop := (8 ≤ a ∧ a ≤ 120) ∧ (8 ≤ b ∧ b ≤ 120) ∧ (8 ≤ c ∧ c ≤ 120) ∧ (8 ≤ d ∧ d ≤ 120) ∧ (a * c) * Q = P * (b * d)
/-- The order: fewer teeth first, then the smaller numbers. -/
def keyT (a b c d : Int) : Int := (a + b + c + d) * 8000000 + a * 40000 + b * 200 + c
theorem keyT_inj {P Q a b c d a' b' c' d' : Int} (h : InS P Q a b c d) (h' : InS P Q a' b' c' d') (e : keyT a b c d = keyT a' b' c' d') : a = a' ∧ b = b' ∧ c = c' ∧ d = d' := by
  obtain ⟨h1, h2, h3, h4, _⟩ := h
  obtain ⟨g1, g2, g3, g4, _⟩ := h'
  unfold keyT at e
  omega
theorem cop_dvd {P Q X Y : Int} (hP : 1 ≤ P) (hQ : 1 ≤ Q) (hX : 0 ≤ X) (hY : 0 ≤ Y) (hg : Nat.gcd P.toNat Q.toNat = 1) (h : X * Q = P * Y) : ∃ t, 0 ≤ t ∧ Y = Q * t ∧ X = P * t := by
  obtain ⟨P, rfl⟩ := Int.eq_ofNat_of_zero_le (show 0 ≤ P by omega)
  obtain ⟨Q, rfl⟩ := Int.eq_ofNat_of_zero_le (show 0 ≤ Q by omega)
  obtain ⟨X, rfl⟩ := Int.eq_ofNat_of_zero_le hX
  obtain ⟨Y, rfl⟩ := Int.eq_ofNat_of_zero_le hY
  simp only [Int.toNat_natCast] at hg
  have h' : X * Q = P * Y := by
    have := h
    rw [← Int.natCast_mul, ← Int.natCast_mul] at this
    omega
  have hd : Q ∣ Y := Nat.Coprime.dvd_of_dvd_mul_left (Nat.Coprime.symm hg) (show Q ∣ P * Y by rw [← h']; exact Nat.dvd_mul_left Q X)
  obtain ⟨t, rfl⟩ := hd
  have hx : X = P * t := by
    have : X * Q = (P * t) * Q := by rw [h']; ac_rfl
    exact Nat.eq_of_mul_eq_mul_right (by omega) this
  exact ⟨(t : Int), by omega, by rw [Int.natCast_mul], by rw [hx, Int.natCast_mul]⟩
section
variable {P Q : Int} (hc : Cop P Q)
include hc
theorem inS_t {a b c d : Int} (h : InS P Q a b c d) : ∃ t, 0 ≤ t ∧ b * d = Q * t ∧ a * c = P * t := by
  obtain ⟨h1, h2, h3, h4, e⟩ := h
  exact cop_dvd hc.1 hc.2.1 (Int.mul_nonneg (by omega) (by omega)) (Int.mul_nonneg (by omega) (by omega)) hc.2.2 e
/-- No train of two pairs has a ratio with so great numbers. -/
theorem inS_small {a b c d : Int} (h : InS P Q a b c d) : P ≤ 14400 ∧ Q ≤ 14400 := by
  obtain ⟨t, h0, e1, e2⟩ := inS_t hc h
  obtain ⟨h1, h2, h3, h4, _⟩ := h
  have m1 : a * c ≤ 120 * 120 := Int.mul_le_mul h1.2 h3.2 (by omega) (by omega)
  have m2 : b * d ≤ 120 * 120 := Int.mul_le_mul h2.2 h4.2 (by omega) (by omega)
  have m3 : 8 * 8 ≤ a * c := Int.mul_le_mul h1.1 h3.1 (by omega) (by omega)
  have ht : 1 ≤ t := by
    rcases Int.lt_or_le t 1 with h | h
    · obtain rfl : t = 0 := by omega
      simp at e2
      omega
    · exact h
  have p1 : P * 1 ≤ P * t := Int.mul_le_mul_of_nonneg_left ht (by have := hc.1; omega)
  have p2 : Q * 1 ≤ Q * t := Int.mul_le_mul_of_nonneg_left ht (by have := hc.2.1; omega)
  omega
/-- What the reference asks of b, d and a. -/
theorem inS_spec {b d : Int} (hb : 8 ≤ b ∧ b ≤ 120) (hd : 8 ≤ d ∧ d ≤ 120) : (Int.tmod (b * d) Q ≠ 0 → ∀ a c, ¬ InS P Q a b c d) ∧
    (Int.tmod (b * d) Q = 0 → ∀ a c, (8 ≤ a ∧ a ≤ 120) → (InS P Q a b c d ↔ Int.tmod (b * d / Q * P) a = 0 ∧ c = b * d / Q * P / a ∧ 8 ≤ c ∧ c ≤ 120)) := by
  have hbd : 0 ≤ b * d := Int.mul_nonneg (by omega) (by omega)
  have hQ := hc.2.1
  rw [Int.tmod_eq_emod_of_nonneg hbd]
  refine ⟨fun h a c hs => ?_, fun h a c ha => ⟨fun hs => ?_, fun ⟨e1, e2, e3⟩ => ?_⟩⟩
  · obtain ⟨t, _, e, _⟩ := inS_t hc hs
    exact h (by rw [e]; exact Int.mul_emod_right Q t)
  · obtain ⟨t, ht, e, e2⟩ := inS_t hc hs
    have hdiv : b * d / Q = t := by rw [e]; exact Int.mul_ediv_cancel_left _ (by omega)
    have hm : b * d / Q * P = a * c := by rw [hdiv, e2, Int.mul_comm]
    rw [hm]
    have hac : 0 ≤ a * c := Int.mul_nonneg (by omega) (by have := hs.2.2.1; omega)
    rw [Int.tmod_eq_emod_of_nonneg hac]
    exact ⟨Int.mul_emod_right a c, (Int.mul_ediv_cancel_left _ (by omega)).symm, hs.2.2.1⟩
  · have hm : 0 ≤ b * d / Q * P := Int.mul_nonneg (Int.ediv_nonneg hbd (by omega)) (by have := hc.1; omega)
    rw [Int.tmod_eq_emod_of_nonneg hm] at e1
    have hma : b * d / Q * P = a * c := by rw [e2]; exact (Int.mul_ediv_cancel' (Int.dvd_of_emod_eq_zero e1)).symm
    have hq : Q * (b * d / Q) = b * d := Int.mul_ediv_cancel' (Int.dvd_of_emod_eq_zero h)
    refine ⟨ha, hb, e3, hd, ?_⟩
    rw [← hma]
    calc b * d / Q * P * Q = P * (Q * (b * d / Q)) := by ac_rfl
      _ = P * (b * d) := by rw [hq]
end
theorem cross_id {P Q a b sP sQ p1 q1 p2 q2 g0 g1 g2 : Int} (hb : b = g0 * sP) (ha : a = g0 * sQ) (hP : P = g1 * p1) (hsQ : sQ = g1 * q1) (hsP : sP = g2 * p2) (hQ : Q = g2 * q2) : (p1 * p2) * (Q * a) = (q2 * q1) * (P * b) := by
  subst hsQ hsP hP hQ ha hb
  ac_rfl
theorem low_mul (p q : Int) (hp : 1 ≤ p) (hq : 1 ≤ q) : p = ((Nat.gcd p.toNat q.toNat : Nat) : Int) * lowP p q ∧ q = ((Nat.gcd p.toNat q.toNat : Nat) : Int) * lowQ p q := by
  obtain ⟨p, rfl⟩ := Int.eq_ofNat_of_zero_le (show 0 ≤ p by omega)
  obtain ⟨q, rfl⟩ := Int.eq_ofNat_of_zero_le (show 0 ≤ q by omega)
  unfold lowP lowQ
  simp only [Int.toNat_natCast]
  exact ⟨(Int.mul_ediv_cancel' (Int.natCast_dvd_natCast.mpr (Nat.gcd_dvd_left p q))).symm, (Int.mul_ediv_cancel' (Int.natCast_dvd_natCast.mpr (Nat.gcd_dvd_right p q))).symm⟩
theorem w16 {x : Int} (h : 0 ≤ x ∧ x ≤ 120) : IntKind.i16.wrap x = x := by
  simp [IntKind.wrap, IntKind.signed, IntKind.bits]
  omega
/-- The ratio that is left for the second pair. -/
def restP (P Q a b : Int) : Int := tP P Q (lowP b a) (lowQ b a)
def restQ (P Q a b : Int) : Int := tQ P Q (lowP b a) (lowQ b a)
section
variable {P Q : Int} (hc : Cop P Q)
include hc
theorem rest_cop {a b : Int} (ha : 1 ≤ a) (hb : 1 ≤ b) : Cop (restP P Q a b) (restQ P Q a b) :=
  times_cop hc ⟨(lowP_bd hb).1, (lowQ_bd hb ha).1, low_gcd hb⟩
theorem rest_cross {a b : Int} (ha : 1 ≤ a) (hb : 1 ≤ b) : restP P Q a b * (Q * a) = restQ P Q a b * (P * b) := by
  have l0 := low_mul b a hb ha
  have l1 := low_mul P (lowQ b a) hc.1 (lowQ_bd hb ha).1
  have l2 := low_mul (lowP b a) Q (lowP_bd hb).1 hc.2.1
  exact cross_id l0.1 l0.2 l1.1 l1.2 l2.1 l2.2
theorem rest_bd {a b : Int} (ha : 1 ≤ a ∧ a ≤ 120) (hb : 1 ≤ b ∧ b ≤ 120) (hP : P ≤ 14400) (hQ : Q ≤ 14400) : restP P Q a b ≤ 1728000 ∧ restQ P Q a b ≤ 1728000 := by
  have h0 := lowP_bd (q := a) hb.1
  have h1 := lowQ_bd hb.1 ha.1
  have h2 := lowP_bd (q := lowQ b a) hc.1
  have h3 := lowQ_bd hc.1 h1.1
  have h4 := lowP_bd (q := Q) h0.1
  have h5 := lowQ_bd h0.1 hc.2.1
  exact ⟨(mul_bd1 h2.1 h4.1 (show _ ≤ (14400 : Int) by omega) (show _ ≤ (120 : Int) by omega)).2, (mul_bd1 h5.1 h3.1 (show _ ≤ (14400 : Int) by omega) (show _ ≤ (120 : Int) by omega)).2⟩
/-- The pairs that fit behind a and b are multiples of the ratio that is left. -/
theorem inS_mult {a b c d : Int} (h : InS P Q a b c d) : ∃ t, 0 ≤ t ∧ d = restQ P Q a b * t ∧ c = restP P Q a b * t := by
  have h' := h
  obtain ⟨h1, h2, h3, h4, e⟩ := h
  have hr := rest_cop hc (a := a) (b := b) (by omega) (by omega)
  have hx := rest_cross hc (a := a) (b := b) (by omega) (by omega)
  refine cop_dvd hr.1 hr.2.1 (by omega) (by omega) hr.2.2 ?_
  have hpb : 0 < P * b := Int.mul_pos (by have := hc.1; omega) (by omega)
  refine Int.eq_of_mul_eq_mul_right (show P * b ≠ 0 by omega) ?_
  calc c * restQ P Q a b * (P * b) = c * (restQ P Q a b * (P * b)) := by ac_rfl
    _ = c * (restP P Q a b * (Q * a)) := by rw [hx]
    _ = restP P Q a b * ((a * c) * Q) := by ac_rfl
    _ = restP P Q a b * (P * (b * d)) := by rw [e]
    _ = restP P Q a b * d * (P * b) := by ac_rfl
/-- The least pair behind a and b: what the program finds. -/
theorem pair_found {a b : Int} (ha : 8 ≤ a ∧ a ≤ 120) (hb : 8 ≤ b ∧ b ≤ 120) :
    ((pairZ (restP P Q a b) (restQ P Q a b)).2.2 = false ∧ ∀ c d, ¬ InS P Q a b c d) ∨
    ∃ c d, pairZ (restP P Q a b) (restQ P Q a b) = (c, d, true) ∧ InS P Q a b c d ∧ ∀ c' d', InS P Q a b c' d' → c ≤ c' ∧ d ≤ d' := by
  have hr := rest_cop hc (a := a) (b := b) (by omega) (by omega)
  have hx := rest_cross hc (a := a) (b := b) (by omega) (by omega)
  have hm := fun c d h => inS_mult hc (a := a) (b := b) (c := c) (d := d) h
  generalize restP P Q a b = u at *
  generalize restQ P Q a b = v at *
  have hk := leastK_bd hr.1 hr.2.1
  have g8 := (leastK_iff hr.1 hr.2.1 (by omega)).mp (Int.le_refl (leastK u v))
  have hge : ∀ c d, InS P Q a b c d → u * leastK u v ≤ c ∧ v * leastK u v ≤ d := by
    intro c d h
    obtain ⟨t, h0, e1, e2⟩ := hm c d h
    have hkt : leastK u v ≤ t := (leastK_iff hr.1 hr.2.1 h0).mpr ⟨by rw [Int.mul_comm]; rw [← e2]; exact h.2.2.1.1, by rw [Int.mul_comm]; rw [← e1]; exact h.2.2.2.1.1⟩
    rw [e1, e2]
    exact ⟨Int.mul_le_mul_of_nonneg_left hkt (by have := hr.1; omega), Int.mul_le_mul_of_nonneg_left hkt (by have := hr.2.1; omega)⟩
  unfold pairZ
  by_cases hbig : mx u v * leastK u v > 120
  · rw [if_pos hbig]
    refine .inl ⟨rfl, fun c d h => ?_⟩
    have h1 := hge c d h
    have h3 := h.2.2.1
    have h4 := h.2.2.2.1
    rcases mx_or u v with h | h <;> rw [h.1] at hbig <;> omega
  · rw [if_neg hbig]
    have hle : u * leastK u v ≤ 120 ∧ v * leastK u v ≤ 120 := by
      rcases mx_or u v with h | h
      · rw [h.1] at hbig
        have : v * leastK u v ≤ u * leastK u v := Int.mul_le_mul_of_nonneg_right h.2 (by omega)
        omega
      · rw [h.1] at hbig
        have : u * leastK u v ≤ v * leastK u v := Int.mul_le_mul_of_nonneg_right h.2 (by omega)
        omega
    have g8a : 8 ≤ u * leastK u v := by rw [Int.mul_comm]; exact g8.1
    have g8b : 8 ≤ v * leastK u v := by rw [Int.mul_comm]; exact g8.2
    refine .inr ⟨u * leastK u v, v * leastK u v, ?_, ⟨ha, hb, ⟨g8a, hle.1⟩, ⟨g8b, hle.2⟩, ?_⟩, hge⟩
    · rw [w16 ⟨by omega, hle.1⟩, w16 ⟨by omega, hle.2⟩]
    · calc a * (u * leastK u v) * Q = u * (Q * a) * leastK u v := by ac_rfl
        _ = v * (P * b) * leastK u v := by rw [hx]
        _ = P * (b * (v * leastK u v)) := by ac_rfl
end
/-- What the reference has found, of the trains in V. -/
def SInv (P Q : Int) (V : Int → Int → Int → Int → Prop) (least B0 B1 B2 B3 : Int) : Prop :=
  (least = 0 ∧ ∀ a b c d, InS P Q a b c d → ¬ V a b c d) ∨
  (least = B0 + B1 + B2 + B3 ∧ InS P Q B0 B1 B2 B3 ∧ ∀ a b c d, InS P Q a b c d → V a b c d → keyT B0 B1 B2 B3 ≤ keyT a b c d)
theorem SInv.mono {P Q : Int} {V V' : Int → Int → Int → Int → Prop} {l B0 B1 B2 B3 : Int} (h : SInv P Q V l B0 B1 B2 B3) (hv : ∀ a b c d, InS P Q a b c d → V' a b c d → V a b c d) : SInv P Q V' l B0 B1 B2 B3 := by
  rcases h with ⟨h1, h2⟩ | ⟨h1, h2, h3⟩
  · exact .inl ⟨h1, fun a b c d hs hv' => h2 a b c d hs (hv a b c d hs hv')⟩
  · exact .inr ⟨h1, h2, fun a b c d hs hv' => h3 a b c d hs (hv a b c d hs hv')⟩
/-- What the program has found, of the trains that begin before (a, b). -/
def IInv (P Q a b : Int) (l : List S79) (least : Int) : Prop :=
  (l = [] ∧ least = 481 ∧ ∀ a' b' c' d', InS P Q a' b' c' d' → ¬ (a' < a ∨ a' = a ∧ b' < b)) ∨
  (∃ B0 B1 B2 B3, l = [⟨B0, B1⟩, ⟨B2, B3⟩] ∧ least = B0 + B1 + B2 + B3 ∧ InS P Q B0 B1 B2 B3 ∧ (B0 < a ∨ B0 = a ∧ B1 < b) ∧ ∀ a' b' c' d', InS P Q a' b' c' d' → (a' < a ∨ a' = a ∧ b' < b) → keyT B0 B1 B2 B3 ≤ keyT a' b' c' d')
theorem IInv.none_at {P Q a b : Int} {l : List S79} {least : Int} (h : IInv P Q a b l least) (hn : ∀ c d, ¬ InS P Q a b c d) : IInv P Q a (b + 1) l least := by
  have key : ∀ a' b' c' d', InS P Q a' b' c' d' → (a' < a ∨ a' = a ∧ b' < b + 1) → (a' < a ∨ a' = a ∧ b' < b) := by
    intro a' b' c' d' hs hv
    by_cases hh : a' = a ∧ b' = b
    · obtain ⟨rfl, rfl⟩ := hh
      exact absurd hs (hn c' d')
    · omega
  rcases h with ⟨h1, h2, h3⟩ | ⟨B0, B1, B2, B3, h1, h2, h3, h4, h5⟩
  · exact .inl ⟨h1, h2, fun a' b' c' d' hs hv => h3 a' b' c' d' hs (key a' b' c' d' hs hv)⟩
  · exact .inr ⟨B0, B1, B2, B3, h1, h2, h3, by omega, fun a' b' c' d' hs hv => h5 a' b' c' d' hs (key a' b' c' d' hs hv)⟩
theorem IInv.less {P Q a b c d : Int} {l : List S79} {least : Int} (h : IInv P Q a b l least) (hs : InS P Q a b c d) (hm : ∀ c' d', InS P Q a b c' d' → c ≤ c' ∧ d ≤ d') (hl : a + b + c + d < least) : IInv P Q a (b + 1) [⟨a, b⟩, ⟨c, d⟩] (a + b + c + d) := by
  refine .inr ⟨a, b, c, d, rfl, rfl, hs, by omega, fun a' b' c' d' hs' hv => ?_⟩
  have hsb := hs
  obtain ⟨r1, r2, r3, r4, _⟩ := hsb
  by_cases hh : a' = a ∧ b' = b
  · obtain ⟨rfl, rfl⟩ := hh
    have := hm c' d' hs'
    unfold keyT
    omega
  · have hv' : a' < a ∨ a' = a ∧ b' < b := by omega
    rcases h with ⟨h1, h2, h3⟩ | ⟨B0, B1, B2, B3, h1, h2, h3, h4, h5⟩
    · exact absurd hv' (h3 a' b' c' d' hs')
    · have := h5 a' b' c' d' hs' hv'
      obtain ⟨q1, q2, q3, q4, _⟩ := hs'
      obtain ⟨s1, s2, s3, s4, _⟩ := h3
      unfold keyT at *
      omega
theorem IInv.more {P Q a b c d : Int} {l : List S79} {least : Int} (h : IInv P Q a b l least) (hs : InS P Q a b c d) (hm : ∀ c' d', InS P Q a b c' d' → c ≤ c' ∧ d ≤ d') (hl : ¬ a + b + c + d < least) : IInv P Q a (b + 1) l least := by
  obtain ⟨r1, r2, r3, r4, _⟩ := hs
  rcases h with ⟨h1, h2, h3⟩ | ⟨B0, B1, B2, B3, h1, h2, h3, h4, h5⟩
  · omega
  · refine .inr ⟨B0, B1, B2, B3, h1, h2, h3, by omega, fun a' b' c' d' hs' hv => ?_⟩
    by_cases hh : a' = a ∧ b' = b
    · obtain ⟨rfl, rfl⟩ := hh
      have := hm c' d' hs'
      obtain ⟨q1, q2, q3, q4, _⟩ := hs'
      obtain ⟨s1, s2, s3, s4, _⟩ := h3
      unfold keyT
      omega
    · exact h5 a' b' c' d' hs' (by omega)
end Go.Proofs.Ytmjfpigkobeahaa.Core
