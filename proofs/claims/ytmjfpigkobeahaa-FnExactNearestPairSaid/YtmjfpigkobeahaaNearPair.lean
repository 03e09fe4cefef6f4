/- The nearest pair of a search: both texts. -/
import Derived.Test.YtmjfpigkobeahaaPx20
import Derived.Test.YtmjfpigkobeahaaPx18
import Derived.Test.YtmjfpigkobeahaaNear
namespace Go.Proofs.Ytmjfpigkobeahaa.Core
open Go.RowKit Go.Proofs.Ytmjfpigkobeahaa.P Go.Proofs.YtmjfpigkobeahaaW.PrintWords Go.Proofs.YtmjfpigkobeahaaW.PrintMore
theorem max_specP (a b : Int) : spec_l00Max.f a b = some (mx a b) := by
  unfold spec_l00Max.f mx
  repeat' split
  all_goals first | rfl | (congr 1; omega)
theorem min_specP (a b : Int) : spec_l00Min.f a b = some (mn a b) := by
  unfold spec_l00Min.f mn
  repeat' split
  all_goals first | rfl | (congr 1; omega)
theorem cross_le {A B C a b c : Int} (ha : 0 ≤ a) (hb : 0 < b) (hc : 0 ≤ c) (h1 : A * b ≤ B * a) (h2 : B * c ≤ C * b) : A * c ≤ C * a := by
  have s1 : (A * b) * c ≤ (B * a) * c := Int.mul_le_mul_of_nonneg_right h1 hc
  have s2 : (B * c) * a ≤ (C * b) * a := Int.mul_le_mul_of_nonneg_right h2 ha
  refine Int.le_of_mul_le_mul_right ?_ hb
  calc (A * c) * b = (A * b) * c := Int.mul_right_comm _ _ _
    _ ≤ (B * a) * c := s1
    _ = (B * c) * a := Int.mul_right_comm _ _ _
    _ ≤ (C * b) * a := s2
    _ = (C * a) * b := Int.mul_right_comm _ _ _
theorem cross_lt1 {A B C a b c : Int} (ha : 0 ≤ a) (hb : 0 < b) (hc : 0 < c) (h1 : A * b < B * a) (h2 : B * c ≤ C * b) : A * c < C * a := by
  have s1 : (A * b) * c < (B * a) * c := Int.mul_lt_mul_of_pos_right h1 hc
  have s2 : (B * c) * a ≤ (C * b) * a := Int.mul_le_mul_of_nonneg_right h2 ha
  refine Int.lt_of_mul_lt_mul_right ?_ (Int.le_of_lt hb)
  calc (A * c) * b = (A * b) * c := Int.mul_right_comm _ _ _
    _ < (B * a) * c := s1
    _ = (B * c) * a := Int.mul_right_comm _ _ _
    _ ≤ (C * b) * a := s2
    _ = (C * a) * b := Int.mul_right_comm _ _ _
theorem cross_lt2 {A B C a b c : Int} (ha : 0 < a) (hb : 0 < b) (hc : 0 ≤ c) (h1 : A * b ≤ B * a) (h2 : B * c < C * b) : A * c < C * a := by
  have s1 : (A * b) * c ≤ (B * a) * c := Int.mul_le_mul_of_nonneg_right h1 hc
  have s2 : (B * c) * a < (C * b) * a := Int.mul_lt_mul_of_pos_right h2 ha
  refine Int.lt_of_mul_lt_mul_right ?_ (Int.le_of_lt hb)
  calc (A * c) * b = (A * b) * c := Int.mul_right_comm _ _ _
    _ ≤ (B * a) * c := s1
    _ = (B * c) * a := Int.mul_right_comm _ _ _
    _ < (C * b) * a := s2
    _ = (C * a) * b := Int.mul_right_comm _ _ _
/-- a comes before b: it is nearer, or as near with fewer teeth, or with as many and a smaller driver. -/
def ltZ (P Q : Int) (a b : Int × Int) : Prop := nearZ P Q a.1 a.2 b.1 b.2 < 0 ∨ (nearZ P Q a.1 a.2 b.1 b.2 = 0 ∧ (a.1 + a.2 < b.1 + b.2 ∨ (a.1 + a.2 = b.1 + b.2 ∧ a.1 < b.1)))
theorem nearZ_neg {P Q p q s t : Int} : nearZ P Q p q s t < 0 ↔ offZ P Q p q * t < offZ P Q s t * q := by
  unfold nearZ
  repeat' split
  all_goals omega
theorem nearZ_zero {P Q p q s t : Int} : nearZ P Q p q s t = 0 ↔ offZ P Q p q * t = offZ P Q s t * q := by
  unfold nearZ
  repeat' split
  all_goals omega
theorem ltZ_irrefl (P Q : Int) (a : Int × Int) : ¬ ltZ P Q a a := by
  unfold ltZ
  rw [nearZ_neg]
  omega
theorem ltZ_trans {P Q : Int} {a b c : Int × Int} (ha : 1 ≤ a.2) (hb : 1 ≤ b.2) (hc : 1 ≤ c.2) (h1 : ltZ P Q a b) (h2 : ltZ P Q b c) : ltZ P Q a c := by
  unfold ltZ at *
  simp only [nearZ_neg, nearZ_zero] at *
  rcases h1 with h1 | ⟨h1, e1⟩
  · rcases h2 with h2 | ⟨h2, e2⟩
    · exact .inl (cross_lt1 (by omega) (by omega) (by omega) h1 (by omega))
    · exact .inl (cross_lt1 (by omega) (by omega) (by omega) h1 (by omega))
  · rcases h2 with h2 | ⟨h2, e2⟩
    · exact .inl (cross_lt2 (by omega) (by omega) (by omega) (by omega) h2)
    · refine .inr ⟨?_, by omega⟩
      have x1 := cross_le (A := offZ P Q a.1 a.2) (B := offZ P Q b.1 b.2) (C := offZ P Q c.1 c.2) (a := a.2) (b := b.2) (c := c.2) (by omega) (by omega) (by omega) (by omega) (by omega)
      have x2 := cross_le (A := offZ P Q c.1 c.2) (B := offZ P Q b.1 b.2) (C := offZ P Q a.1 a.2) (a := c.2) (b := b.2) (c := a.2) (by omega) (by omega) (by omega) (by omega) (by omega)
      omega
theorem ltZ_tri {P Q : Int} {a b : Int × Int} (h1 : ¬ ltZ P Q a b) (h2 : ¬ ltZ P Q b a) : a = b := by
  unfold ltZ at *
  simp only [nearZ_neg, nearZ_zero] at *
  obtain ⟨a1, a2⟩ := a
  obtain ⟨b1, b2⟩ := b
  simp only at *
  have : a1 = b1 ∧ a2 = b2 := by
    have e : offZ P Q a1 a2 * b2 = offZ P Q b1 b2 * a2 := by omega
    have e' : offZ P Q b1 b2 * a2 = offZ P Q a1 a2 * b2 := e.symm
    omega
  rw [this.1, this.2]
open Classical in
/-- The better one of two. -/
noncomputable def stepZ (P Q : Int) (p b : Int × Int) : Int × Int := if ltZ P Q p b then p else b
theorem stepZ_cases (P Q : Int) (p b : Int × Int) : (ltZ P Q p b ∧ stepZ P Q p b = p) ∨ (¬ ltZ P Q p b ∧ stepZ P Q p b = b) := by
  unfold stepZ
  by_cases h : ltZ P Q p b
  · exact .inl ⟨h, if_pos h⟩
  · exact .inr ⟨h, if_neg h⟩
/-- What is no better than b is no better than what comes of it. -/
theorem stepZ_keeps {P Q : Int} {p b c : Int × Int} (hp : 1 ≤ p.2) (hb : 1 ≤ b.2) (hc : 1 ≤ c.2) (h : ¬ ltZ P Q c b) : ¬ ltZ P Q c (stepZ P Q p b) := by
  rcases stepZ_cases P Q p b with ⟨h1, e⟩ | ⟨_, e⟩ <;> rw [e]
  · exact fun h2 => h (ltZ_trans hc hp hb h2 h1)
  · exact h
theorem stepZ_self (P Q : Int) (p b : Int × Int) : ¬ ltZ P Q p (stepZ P Q p b) := by
  rcases stepZ_cases P Q p b with ⟨_, e⟩ | ⟨h, e⟩ <;> rw [e]
  · exact ltZ_irrefl P Q p
  · exact h
def BoxZ (m : Int) (b : Int × Int) : Prop := (8 ≤ b.1 ∧ b.1 ≤ m) ∧ (8 ≤ b.2 ∧ b.2 ≤ m)
theorem stepZ_box {P Q m : Int} {p b : Int × Int} (hp : BoxZ m p) (hb : BoxZ m b) : BoxZ m (stepZ P Q p b) := by
  rcases stepZ_cases P Q p b with ⟨_, e⟩ | ⟨_, e⟩ <;> rw [e] <;> assumption
theorem BoxZ.small {m : Int} {b : Int × Int} (hm : m ≤ 120) (h : BoxZ m b) : Small b.1 b.2 := by
  obtain ⟨h1, h2⟩ : (8 ≤ b.1 ∧ b.1 ≤ m) ∧ (8 ≤ b.2 ∧ b.2 ≤ m) := h
  exact ⟨⟨by omega, by omega⟩, by omega, by omega⟩
/-- The candidates of a row. -/
def cand (P Q m q i : Int) : Int × Int := (mx 8 (mn m (P * q / Q + i)), q)
theorem cand_box {P Q m q i : Int} (hm : 8 ≤ m) (hq : 8 ≤ q ∧ q ≤ m) : BoxZ m (cand P Q m q i) := by
  refine ⟨?_, hq⟩
  show 8 ≤ mx 8 (mn m (P * q / Q + i)) ∧ mx 8 (mn m (P * q / Q + i)) ≤ m
  unfold mx mn
  repeat' split
  all_goals omega
/-- A row's candidates are its best. -/
theorem cand_best {P Q m : Int} {b : Int × Int} (hQ : 1 ≤ Q) (hb : BoxZ m b) : b = cand P Q m b.2 0 ∨ b = cand P Q m b.2 1 ∨ ltZ P Q (cand P Q m b.2 0) b ∨ ltZ P Q (cand P Q m b.2 1) b := by
  obtain ⟨x, y⟩ := b
  obtain ⟨⟨h1, h2⟩, h3, h4⟩ : (8 ≤ x ∧ x ≤ m) ∧ (8 ≤ y ∧ y ≤ m) := hb
  have f1 : P * y / Q * Q ≤ P * y := Int.ediv_mul_le _ (by omega)
  have f2 : P * y < (P * y / Q + 1) * Q := Int.lt_ediv_add_one_mul_self _ (by omega)
  simp only [cand, ltZ, nearZ_neg]
  generalize P * y / Q = F at *
  by_cases c : x ≤ F
  · by_cases e : x = mx 8 (mn m (F + 0))
    · exact .inl (by rw [← e])
    · refine .inr (.inr (.inl (.inl ?_)))
      have hlt : x < mx 8 (mn m (F + 0)) ∧ mx 8 (mn m (F + 0)) ≤ F := by
        revert e
        unfold mx mn
        repeat' split
        all_goals omega
      generalize mx 8 (mn m (F + 0)) = z at *
      have g1 : z * Q ≤ F * Q := Int.mul_le_mul_of_nonneg_right hlt.2 (by omega)
      have g2 : x * Q < z * Q := Int.mul_lt_mul_of_pos_right hlt.1 (by omega)
      refine Int.mul_lt_mul_of_pos_right ?_ (by omega)
      unfold offZ
      omega
  · by_cases e : x = mx 8 (mn m (F + 1))
    · exact .inr (.inl (by rw [← e]))
    · refine .inr (.inr (.inr (.inl ?_)))
      have hlt : mx 8 (mn m (F + 1)) < x ∧ F + 1 ≤ mx 8 (mn m (F + 1)) := by
        revert e
        unfold mx mn
        repeat' split
        all_goals omega
      generalize mx 8 (mn m (F + 1)) = z at *
      have g1 : (F + 1) * Q ≤ z * Q := Int.mul_le_mul_of_nonneg_right hlt.2 (by omega)
      have g2 : z * Q < x * Q := Int.mul_lt_mul_of_pos_right hlt.1 (by omega)
      refine Int.mul_lt_mul_of_pos_right ?_ (by omega)
      unfold offZ
      omega
/-- The quotient rounded down. -/
theorem downP {P Q y : Int} (hP : 1 ≤ P ∧ P ≤ 1000000000) (hQ : 1 ≤ Q) (hy : 1 ≤ y ∧ y ≤ 1001) : wrap64 (Int.tdiv (wrap64 (P * y)) Q) = P * y / Q ∧ 0 ≤ P * y / Q ∧ P * y / Q ≤ 1001000000000 := by
  obtain ⟨a, b⟩ := mul_bd (show 0 ≤ P by omega) hP.2 (show 0 ≤ y by omega) hy.2
  have h2 : P * y / Q ≤ P * y := Int.ediv_le_self _ (by omega)
  have h3 : 0 ≤ P * y / Q := Int.ediv_nonneg (by omega) (by omega)
  rw [wr (n := P * y) (by omega), Int.tdiv_eq_ediv_of_nonneg (by omega)]
  exact ⟨wr (by omega), h3, by omega⟩
theorem pick_spec {α : Type} {P Q m c q b1 b2 : Int} (hm : m ≤ 120) (hc : BoxZ m (c, q)) (hb : BoxZ m (b1, b2)) (A : Int → Int → α) :
    (if nearZ P Q c q b1 b2 < 0 then A c q else if nearZ P Q c q b1 b2 = 0 then (if wrap64 (c + q) < wrap64 (b1 + b2) then A c q else if wrap64 (c + q) = wrap64 (b1 + b2) then (if c < b1 then A c q else A b1 b2) else A b1 b2) else A b1 b2) = A (stepZ P Q (c, q) (b1, b2)).1 (stepZ P Q (c, q) (b1, b2)).2 := by
  obtain ⟨⟨h1, h2⟩, h3, h4⟩ : (8 ≤ c ∧ c ≤ m) ∧ (8 ≤ q ∧ q ≤ m) := hc
  obtain ⟨⟨g1, g2⟩, g3, g4⟩ : (8 ≤ b1 ∧ b1 ≤ m) ∧ (8 ≤ b2 ∧ b2 ≤ m) := hb
  rw [wr (n := c + q) (by omega), wr (n := b1 + b2) (by omega)]
  rcases stepZ_cases P Q (c, q) (b1, b2) with ⟨h, e⟩ | ⟨h, e⟩
  all_goals
    rw [e]
    simp only [ltZ] at h
    repeat' split
    all_goals first | rfl | (exfalso; omega)
theorem pick_impl {α : Type} {P Q m c q b1 b2 : Int} (hm : m ≤ 120) (hc : BoxZ m (c, q)) (hb : BoxZ m (b1, b2)) (hl : b1 ≤ c) (A : Int → Int → α) :
    (if nearZ P Q c q b1 b2 < 0 then A c q else if nearZ P Q c q b1 b2 = 0 then (if wrap64 (c + q) < wrap64 (b1 + b2) then A c q else A b1 b2) else A b1 b2) = A (stepZ P Q (c, q) (b1, b2)).1 (stepZ P Q (c, q) (b1, b2)).2 := by
  obtain ⟨⟨h1, h2⟩, h3, h4⟩ : (8 ≤ c ∧ c ≤ m) ∧ (8 ≤ q ∧ q ≤ m) := hc
  obtain ⟨⟨g1, g2⟩, g3, g4⟩ : (8 ≤ b1 ∧ b1 ≤ m) ∧ (8 ≤ b2 ∧ b2 ≤ m) := hb
  rw [wr (n := c + q) (by omega), wr (n := b1 + b2) (by omega)]
  rcases stepZ_cases P Q (c, q) (b1, b2) with ⟨h, e⟩ | ⟨h, e⟩
  all_goals
    rw [e]
    simp only [ltZ] at h
    repeat' split
    all_goals first | rfl | (exfalso; omega)
section
variable {P Q m : Int} (hP : 1 ≤ P ∧ P ≤ 1000000000) (hQ : 1 ≤ Q ∧ Q ≤ 1000000000) (hm : 8 ≤ m ∧ m ≤ 120)
include hP hQ hm
theorem spec_step (k : Nat) (q i : Int) (b : Int × Int) (hq : 8 ≤ q ∧ q ≤ m) (hi : i = 0 ∨ i = 1) (hb : BoxZ m b) :
    spec_NearestPair.l1 (k + 1) m b.1 b.2 q i P Q = spec_NearestPair.l1 k m (stepZ P Q (cand P Q m q i) b).1 (stepZ P Q (cand P Q m q i) b).2 q (i + 1) P Q := by
  obtain ⟨e, d0, d1⟩ := downP hP hQ.1 (show 1 ≤ q ∧ q ≤ 1001 by omega)
  have hc := cand_box (P := P) (Q := Q) (i := i) hm.1 hq
  have nQ : ¬ Q = 0 := by omega
  have i2 : i < 2 := by omega
  have n0 : ¬ b.2 = 0 := by have := hb.2; omega
  simp only [spec_NearestPair.l1]
  rw [if_pos i2, if_neg nQ, e, wr (n := P * q / Q + i) (by omega), wr (n := i + 1) (by omega)]
  simp only [min_specP, max_specP, Option.bind_some, if_neg n0]
  have hs := BoxZ.small hm.2 hc
  have hs' := BoxZ.small hm.2 hb
  simp only [cand] at hs
  rw [nearer_spec (by omega) (by omega) hs hs']
  simp only [Option.bind_some]
  exact pick_spec hm.2 hc hb (fun x y => spec_NearestPair.l1 k m x y q (i + 1) P Q)
theorem spec_row (k : Nat) (q : Int) (b : Int × Int) (hq : 8 ≤ q ∧ q ≤ m) (hb : BoxZ m b) :
    ∃ b', BoxZ m b' ∧ spec_NearestPair.l0 (k + 4) m b.1 b.2 q P Q = spec_NearestPair.l0 k m b'.1 b'.2 (q + 1) P Q ∧ (∀ c, BoxZ m c → ¬ ltZ P Q c b → ¬ ltZ P Q c b') ∧ ∀ i, i = 0 ∨ i = 1 → ¬ ltZ P Q (cand P Q m q i) b' := by
  have c0 := cand_box (P := P) (Q := Q) (i := 0) hm.1 hq
  have c1 := cand_box (P := P) (Q := Q) (i := 1) hm.1 hq
  have b1 := stepZ_box (P := P) (Q := Q) c0 hb
  have b2 := stepZ_box (P := P) (Q := Q) c1 b1
  have one : ∀ {x : Int × Int}, BoxZ m x → 1 ≤ x.2 := fun h => by have := h.2; omega
  refine ⟨_, b2, ?_, fun c hc h => stepZ_keeps (one c1) (one b1) (one hc) (stepZ_keeps (one c0) (one hb) (one hc) h), ?_⟩
  · rw [spec_NearestPair.l0, if_pos hq.2, spec_step hP hQ hm (k + 2) q 0 b hq (.inl rfl) hb, Int.zero_add, spec_step hP hQ hm (k + 1) q 1 _ hq (.inr rfl) b1, spec_NearestPair.l1, if_neg (by omega), wr (n := q + 1) (by omega)]
  · rintro i (rfl | rfl)
    · exact stepZ_keeps (one c1) (one b1) (one c0) (stepZ_self P Q _ _)
    · exact stepZ_self P Q _ _
theorem spec_rows : ∀ (d k : Nat) (q : Int) (b : Int × Int), 8 ≤ q → q + d = m + 1 → BoxZ m b → 4 * d + 2 < k →
    ∃ r, BoxZ m r ∧ spec_NearestPair.l0 k m b.1 b.2 q P Q = some ([⟨IntKind.i16.wrap r.1, IntKind.i16.wrap r.2⟩], 0) ∧ (∀ c, BoxZ m c → ¬ ltZ P Q c b → ¬ ltZ P Q c r) ∧ ∀ q' i, q ≤ q' → q' ≤ m → i = 0 ∨ i = 1 → ¬ ltZ P Q (cand P Q m q' i) r := by
  intro d
  induction d with
  | zero =>
    intro k q b h0 h1 hb hk
    obtain ⟨k, rfl⟩ : ∃ m, k = m + 1 := ⟨k - 1, by omega⟩
    refine ⟨b, hb, ?_, fun _ _ h => h, fun q' i a b _ => by omega⟩
    rw [spec_NearestPair.l0, if_neg (by omega)]
  | succ d ih =>
    intro k q b h0 h1 hb hk
    obtain ⟨k, rfl⟩ : ∃ m, k = m + 4 := ⟨k - 4, by omega⟩
    obtain ⟨b', hb', e, kp, nw⟩ := spec_row hP hQ hm k q b ⟨h0, by omega⟩ hb
    obtain ⟨r, hr, e2, kp2, nw2⟩ := ih k (q + 1) b' (by omega) (by omega) hb' (by omega)
    refine ⟨r, hr, e.trans e2, fun c hc h => kp2 c hc (kp c hc h), fun q' i a1 a2 hi => ?_⟩
    by_cases hqq : q' = q
    · subst hqq
      exact kp2 _ (cand_box hm.1 ⟨h0, by omega⟩) (nw i hi)
    · exact nw2 q' i (by omega) a2 hi
theorem spec_all (k : Nat) (hk : 600 < k) : ∃ r, BoxZ m r ∧ spec_NearestPair.l0 k m 0 0 8 P Q = some ([⟨IntKind.i16.wrap r.1, IntKind.i16.wrap r.2⟩], 0) ∧ ∀ q' i, 8 ≤ q' → q' ≤ m → i = 0 ∨ i = 1 → ¬ ltZ P Q (cand P Q m q' i) r := by
  obtain ⟨k, rfl⟩ : ∃ m, k = m + 4 := ⟨k - 4, by omega⟩
  have hq : 8 ≤ (8 : Int) ∧ (8 : Int) ≤ m := ⟨by omega, hm.1⟩
  have c0 := cand_box (P := P) (Q := Q) (i := 0) hm.1 hq
  have c1 := cand_box (P := P) (Q := Q) (i := 1) hm.1 hq
  have b2 := stepZ_box (P := P) (Q := Q) c1 c0
  have one : ∀ {x : Int × Int}, BoxZ m x → 1 ≤ x.2 := fun h => by have := h.2; omega
  obtain ⟨r, hr, e, kp, nw⟩ := spec_rows hP hQ hm (m - 8).toNat k 9 (stepZ P Q (cand P Q m 8 1) (cand P Q m 8 0)) (by omega) (by omega) b2 (by omega)
  obtain ⟨e8, d0, d1⟩ := downP hP hQ.1 (show (1 : Int) ≤ 8 ∧ (8 : Int) ≤ 1001 by omega)
  refine ⟨r, hr, ?_, fun q' i a1 a2 hi => ?_⟩
  · rw [spec_NearestPair.l0, if_pos hm.1]
    have s1 : spec_NearestPair.l1 (k + 3) m 0 0 8 0 P Q = spec_NearestPair.l1 (k + 2) m (cand P Q m 8 0).1 (cand P Q m 8 0).2 8 1 P Q := by
      have nQ : ¬ Q = 0 := by omega
      have i2 : (0 : Int) < 2 := by omega
      have m1 : (-1 : Int) < 0 := by omega
      rw [spec_NearestPair.l1]
      rw [if_pos i2, if_neg nQ, e8, wr (n := P * 8 / Q + 0) (by omega), wr (n := (0 : Int) + 1) (by omega)]
      simp only [min_specP, max_specP, Option.bind_some, if_true, if_pos m1]
      rfl
    rw [s1, spec_step hP hQ hm (k + 1) 8 1 _ hq (.inr rfl) c0, spec_NearestPair.l1, if_neg (by omega), wr (n := (8 : Int) + 1) (by omega)]
    exact e
  · by_cases hqq : q' = 8
    · subst hqq
      rcases hi with rfl | rfl
      · exact kp _ c0 (stepZ_keeps (one c1) (one c0) (one c0) (ltZ_irrefl P Q _))
      · exact kp _ c1 (stepZ_self P Q _ _)
    · exact nw q' i (by omega) a2 hi
theorem impl_in (p : Int) (hp : 8 ≤ p ∧ p ≤ m) : ∀ (d k : Nat) (q : Int) (b : Int × Int), 8 ≤ q → q + d = m + 1 → BoxZ m b → b.1 ≤ p →
    ∃ b', BoxZ m b' ∧ b'.1 ≤ p ∧ impl_NearestPair.l1 (k + d + 1) m b.1 b.2 p q P Q = impl_NearestPair.l0 k m b'.1 b'.2 (p + 1) P Q ∧ (∀ c, BoxZ m c → ¬ ltZ P Q c b → ¬ ltZ P Q c b') ∧ ∀ q', q ≤ q' → q' ≤ m → ¬ ltZ P Q (p, q') b' := by
  intro d
  induction d with
  | zero =>
    intro k q b h0 h1 hb hl
    refine ⟨b, hb, hl, ?_, fun _ _ h => h, fun q' a b => by omega⟩
    rw [impl_NearestPair.l1, if_neg (by omega), wr (n := p + 1) (by omega)]
  | succ d ih =>
    intro k q b h0 h1 hb hl
    have hc : BoxZ m (p, q) := ⟨hp, h0, by omega⟩
    have hb1 := stepZ_box (P := P) (Q := Q) hc hb
    have hl1 : (stepZ P Q (p, q) b).1 ≤ p := by
      rcases stepZ_cases P Q (p, q) b with ⟨_, e⟩ | ⟨_, e⟩ <;> rw [e]
      · exact Int.le_refl _
      · exact hl
    have one : ∀ {x : Int × Int}, BoxZ m x → 1 ≤ x.2 := fun h => by have := h.2; omega
    obtain ⟨b', hb', hl', e, kp, nw⟩ := ih k (q + 1) _ (by omega) (by omega) hb1 hl1
    refine ⟨b', hb', hl', ?_, fun c hc' h => kp c hc' (stepZ_keeps (one hc) (one hb) (one hc') h), fun q' a1 a2 => ?_⟩
    · rw [← e, show k + (d + 1) + 1 = (k + d + 1) + 1 by omega, impl_NearestPair.l1, if_pos (by omega), nearer_impl (by omega) (by omega) (BoxZ.small hm.2 hc) (BoxZ.small hm.2 hb), wr (n := q + 1) (by omega)]
      simp only [Option.bind_some]
      exact pick_impl hm.2 hc hb hl (fun x y => impl_NearestPair.l1 (k + d + 1) m x y p (q + 1) P Q)
    · by_cases hqq : q' = q
      · subst hqq
        exact kp _ hc (stepZ_self P Q _ _)
      · exact nw q' (by omega) a2
theorem impl_out : ∀ (d k : Nat) (p : Int) (b : Int × Int), 8 ≤ p → p + d = m + 1 → BoxZ m b → b.1 ≤ p → 120 * d + 2 < k →
    ∃ r, BoxZ m r ∧ impl_NearestPair.l0 k m b.1 b.2 p P Q = some ([⟨IntKind.i16.wrap r.1, IntKind.i16.wrap r.2⟩], 0) ∧ (∀ c, BoxZ m c → ¬ ltZ P Q c b → ¬ ltZ P Q c r) ∧ ∀ p' q', p ≤ p' → p' ≤ m → 8 ≤ q' → q' ≤ m → ¬ ltZ P Q (p', q') r := by
  intro d
  induction d with
  | zero =>
    intro k p b h0 h1 hb hl hk
    obtain ⟨k, rfl⟩ : ∃ m, k = m + 1 := ⟨k - 1, by omega⟩
    refine ⟨b, hb, ?_, fun _ _ h => h, fun p' q' a b => by omega⟩
    rw [impl_NearestPair.l0, if_neg (by omega)]
  | succ d ih =>
    intro k p b h0 h1 hb hl hk
    obtain ⟨k, rfl⟩ : ∃ n, k = (n + (m + 1 - 8).toNat + 1) + 1 := ⟨k - (m + 1 - 8).toNat - 2, by omega⟩
    have hp : 8 ≤ p ∧ p ≤ m := ⟨h0, by omega⟩
    obtain ⟨b', hb', hl', e, kp, nw⟩ := impl_in hP hQ hm p hp (m + 1 - 8).toNat k 8 b (by omega) (by omega) hb hl
    obtain ⟨r, hr, e2, kp2, nw2⟩ := ih k (p + 1) b' (by omega) (by omega) hb' (by omega) (by omega)
    refine ⟨r, hr, ?_, fun c hc h => kp2 c hc (kp c hc h), fun p' q' a1 a2 a3 a4 => ?_⟩
    · rw [impl_NearestPair.l0, if_pos hp.2]
      exact e.trans e2
    · by_cases hpp : p' = p
      · subst hpp
        exact kp2 _ ⟨hp, a3, a4⟩ (nw q' a3 a4)
      · exact nw2 p' q' (by omega) a2 a3 a4
theorem pair_rows_both (k : Nat) (hk : 20000 < k) : ∃ r : Int × Int, spec_NearestPair.l0 k m 0 0 8 P Q = some ([⟨IntKind.i16.wrap r.1, IntKind.i16.wrap r.2⟩], 0) ∧ impl_NearestPair.l0 k m 8 8 8 P Q = some ([⟨IntKind.i16.wrap r.1, IntKind.i16.wrap r.2⟩], 0) := by
  obtain ⟨r, hr, e, nw⟩ := spec_all hP hQ hm k (by omega)
  obtain ⟨r', hr', e', _, nw'⟩ := impl_out hP hQ hm (m - 7).toNat k 8 (8, 8) (by omega) (by omega) ⟨⟨by omega, hm.1⟩, by omega, hm.1⟩ (Int.le_refl _) (by omega)
  have all' : ∀ c, BoxZ m c → ¬ ltZ P Q c r' := fun c hc => nw' c.1 c.2 hc.1.1 hc.1.2 hc.2.1 hc.2.2
  have hq : 8 ≤ r'.2 ∧ r'.2 ≤ m := hr'.2
  have n1 : ¬ ltZ P Q r' r := by
    rcases cand_best (P := P) hQ.1 hr' with h | h | h | h
    · rw [h]
      exact nw _ 0 hq.1 hq.2 (.inl rfl)
    · rw [h]
      exact nw _ 1 hq.1 hq.2 (.inr rfl)
    · exact absurd h (all' _ (cand_box hm.1 hq))
    · exact absurd h (all' _ (cand_box hm.1 hq))
  have := ltZ_tri (all' r hr) n1
  subst this
  exact ⟨r, e, e'⟩
end
theorem nearestPair_both (k : Nat) (P Q m : Int) (hk : 1000000010 < k) : ∃ r c, spec_NearestPair.f k P Q m = some (r, c) ∧ impl_NearestPair.f k P Q m = some (r, c) ∧ r.length ≤ 1 := by
  unfold spec_NearestPair.f impl_NearestPair.f
  rw [ok_spec k P Q (by omega), ok_impl k P Q (by omega)]
  simp only [Option.bind_some, within_eq, spec_l03Teeth.f, in_eq, decide_eq_true_eq]
  by_cases h : okB P Q = true
  · have ho := okB_true.mp h
    simp only [if_pos h]
    by_cases hm : 8 ≤ m ∧ m ≤ 120
    · obtain ⟨r, h1, h2⟩ := pair_rows_both ho.1 ho.2.1 hm k (by omega)
      simp only [if_pos hm]
      exact ⟨_, _, h1, h2, by simp⟩
    · simp only [if_neg hm]
      exact ⟨_, _, rfl, rfl, by simp⟩
  · simp only [if_neg h]
    exact ⟨_, _, rfl, rfl, by simp⟩
end Go.Proofs.Ytmjfpigkobeahaa.Core
