/- The nearest ratio of a search: both texts. -/
import Derived.Test.YtnedmhmliknfgaaPx12
import Derived.Test.YtnedmhmliknfgaaPx10
import Derived.Test.YtnedmhmliknfgaaPx3
import Derived.Test.YtnedmhmliknfgaaNear
namespace Go.Proofs.Ytnedmhmliknfgaa.Core
open Go.RowKit Go.Proofs.Ytnedmhmliknfgaa.P Go.Proofs.YtnedmhmliknfgaaW.PrintWords Go.Proofs.YtnedmhmliknfgaaW.PrintMore
theorem eqRatio_selfN (p q : Int) : laws_eqRatio.f p q p q = some true := by
  unfold laws_eqRatio.f
  simp
theorem max_specN (a b : Int) : spec_l00Max.f a b = some (mx a b) := by
  unfold spec_l00Max.f mx
  repeat' split
  all_goals first | rfl | (congr 1; omega)
theorem min_specN (a b : Int) : spec_l00Min.f a b = some (mn a b) := by
  unfold spec_l00Min.f mn
  repeat' split
  all_goals first | rfl | (congr 1; omega)
/-- A number brought into 1 .. m. -/
theorem clampN {m x : Int} (hm : 1 ≤ m) : mx 1 (mn m x) = mn (mx x 1) m ∧ 1 ≤ mn (mx x 1) m ∧ mn (mx x 1) m ≤ m := by
  unfold mx mn
  repeat' split
  all_goals omega
/-- The quotient rounded down, and what it is worth. -/
theorem downN {P Q y : Int} (hP : 1 ≤ P ∧ P ≤ 1000000000) (hQ : 1 ≤ Q) (hy : 1 ≤ y ∧ y ≤ 1001) : wrap64 (Int.tdiv (wrap64 (P * y)) Q) = P * y / Q ∧ 0 ≤ P * y / Q ∧ P * y / Q ≤ 1001000000000 := by
  obtain ⟨a, b⟩ := mul_bd (show 0 ≤ P by omega) hP.2 (show 0 ≤ y by omega) hy.2
  have h2 : P * y / Q ≤ P * y := Int.ediv_le_self _ (by omega)
  have h3 : 0 ≤ P * y / Q := Int.ediv_nonneg (by omega) (by omega)
  rw [wr (n := P * y) (by omega), Int.tdiv_eq_ediv_of_nonneg (by omega)]
  exact ⟨wr (by omega), h3, by omega⟩
/-- One candidate after the other: the better one of two. -/
def stepN (P Q p q : Int) (b : Int × Int) : Int × Int := if nearZ P Q p q b.1 b.2 < 0 then (p, q) else b
/-- Two candidates of a row. -/
def rowN (P Q m q : Int) (b : Int × Int) : Int × Int := stepN P Q (mn (mx (P * q / Q + 1) 1) m) q (stepN P Q (mn (mx (P * q / Q) 1) m) q b)
def OkN (m : Int) (b : Int × Int) : Prop := (1 ≤ b.1 ∧ b.1 ≤ m) ∧ (1 ≤ b.2 ∧ b.2 ≤ m)
theorem stepN_ok {P Q p q m : Int} {b : Int × Int} (hp : 1 ≤ p ∧ p ≤ m) (hq : 1 ≤ q ∧ q ≤ m) (hb : OkN m b) : OkN m (stepN P Q p q b) := by
  unfold stepN
  split
  · exact ⟨hp, hq⟩
  · exact hb
theorem rowN_ok {P Q q m : Int} {b : Int × Int} (hm : 1 ≤ m) (hq : 1 ≤ q ∧ q ≤ m) (hb : OkN m b) : OkN m (rowN P Q m q b) :=
  stepN_ok (clampN hm).2 hq (stepN_ok (clampN hm).2 hq hb)
theorem rowsN (P Q m : Int) (hP : 1 ≤ P ∧ P ≤ 1000000000) (hQ : 1 ≤ Q ∧ Q ≤ 1000000000) (hm : 1 ≤ m ∧ m ≤ 1000) : ∀ (d k : Nat) (q : Int) (b : Int × Int), 1 ≤ q → q + d = m + 1 → OkN m b → 4 * d + 10 < k →
    ∃ r : Int × Int, spec_NearestRatio.l0 k m q P Q b.1 b.2 = some (r.1, r.2, 0) ∧ impl_NearestRatio.l0 k m q P Q b.1 b.2 = some (r.1, r.2, 0) := by
  intro d
  induction d with
  | zero =>
    intro k q b h0 h1 hb hk
    obtain ⟨k, rfl⟩ : ∃ m, k = m + 1 := ⟨k - 1, by omega⟩
    have p1 : ¬ q ≤ m := by omega
    simp only [spec_NearestRatio.l0, impl_NearestRatio.l0, if_neg p1]
    exact ⟨b, rfl, rfl⟩
  | succ d ih =>
    intro k q b h0 h1 hb hk
    obtain ⟨k, rfl⟩ : ∃ m, k = m + 4 := ⟨k - 4, by omega⟩
    have p1 : q ≤ m := by omega
    have nQ : ¬ Q = 0 := by omega
    obtain ⟨e, d0, d1⟩ := downN hP hQ.1 (show 1 ≤ q ∧ q ≤ 1001 by omega)
    have c0 := clampN (x := P * q / Q) hm.1
    have c1 := clampN (x := P * q / Q + 1) hm.1
    have hb1 : OkN m (stepN P Q (mn (mx (P * q / Q) 1) m) q b) := stepN_ok c0.2 ⟨h0, p1⟩ hb
    have sm : ∀ {x : Int × Int}, OkN m x → Small x.1 x.2 := fun {x} h => by
      obtain ⟨h1, h2⟩ : (1 ≤ x.1 ∧ x.1 ≤ m) ∧ (1 ≤ x.2 ∧ x.2 ≤ m) := h
      exact ⟨⟨by omega, by omega⟩, by omega, by omega⟩
    have hP' : 0 ≤ P ∧ P ≤ 1000000000 := by omega
    have hQ' : 0 ≤ Q ∧ Q ≤ 1000000000 := by omega
    have s0 : Small (mn (mx (P * q / Q) 1) m) q := ⟨by omega, by omega⟩
    have s1 : Small (mn (mx (P * q / Q + 1) 1) m) q := ⟨by omega, by omega⟩
    have n0 : ¬ b.2 = 0 := by have := hb.2; omega
    have n1 : ¬ (stepN P Q (mn (mx (P * q / Q) 1) m) q b).2 = 0 := by have := hb1.2; omega
    simp only [spec_NearestRatio.l0, impl_NearestRatio.l0, spec_NearestRatio.l1, impl_NearestRatio.l1, if_pos p1, if_neg nQ, e]
    have w1 : wrap64 (P * q / Q + 1) = P * q / Q + 1 := wr (by omega)
    have w0 : wrap64 (P * q / Q + 0) = P * q / Q := by rw [Int.add_zero]; exact wr (by omega)
    have w2 : wrap64 (P * q / Q + 1 + 1) = P * q / Q + 1 + 1 := wr (by omega)
    have wq : wrap64 (q + 1) = q + 1 := wr (by omega)
    have i1 : wrap64 ((0 : Int) + 1) = 1 := wr (by omega)
    have i2 : wrap64 ((1 : Int) + 1) = 2 := wr (by omega)
    have t0 : (0 : Int) < 2 := by decide
    have t1 : (1 : Int) < 2 := by decide
    have t2 : ¬ (2 : Int) < 2 := by decide
    have u0 : P * q / Q ≤ P * q / Q + 1 := by omega
    have u2 : ¬ P * q / Q + 1 + 1 ≤ P * q / Q + 1 := by omega
    simp only [w0, w1, w2, wq, i1, i2, if_pos t0, if_pos t1, if_neg t2, if_pos u0, if_neg u2, Int.le_refl, if_true, min_specN, max_specN, Option.bind_some, c0.1, c1.1, if_neg n0]
    rw [nearer_spec hP' hQ' s0 (sm hb), nearer_impl hP' hQ' s0 (sm hb)]
    simp only [Option.bind_some]
    have g0 := ih k (q + 1) (rowN P Q m q b) (by omega) (by omega) (rowN_ok hm.1 ⟨h0, p1⟩ hb) (by omega)
    unfold rowN at g0
    have key : ∀ x : Int × Int, OkN m x → x = stepN P Q (mn (mx (P * q / Q) 1) m) q b → ∃ r : Int × Int, (if x.2 = 0 then spec_NearestRatio.l0 k m (q + 1) P Q (mn (mx (P * q / Q + 1) 1) m) q
        else (spec_l03Nearer.f P Q (mn (mx (P * q / Q + 1) 1) m) q x.1 x.2).bind fun t => if t < 0 then spec_NearestRatio.l0 k m (q + 1) P Q (mn (mx (P * q / Q + 1) 1) m) q else spec_NearestRatio.l0 k m (q + 1) P Q x.1 x.2) = some (r.1, r.2, 0) ∧
        ((impl_Ratio_nearer.f P Q (mn (mx (P * q / Q + 1) 1) m) q x.1 x.2).bind fun t => if t < 0 then impl_NearestRatio.l0 k m (q + 1) P Q (mn (mx (P * q / Q + 1) 1) m) q else impl_NearestRatio.l0 k m (q + 1) P Q x.1 x.2) = some (r.1, r.2, 0) := by
      intro x hx ex
      rw [← ex] at g0
      rw [if_neg (by have := hx.2; omega), nearer_spec hP' hQ' s1 (sm hx), nearer_impl hP' hQ' s1 (sm hx)]
      simp only [Option.bind_some]
      unfold stepN at g0
      by_cases c : nearZ P Q (mn (mx (P * q / Q + 1) 1) m) q x.1 x.2 < 0
      · simp only [if_pos c] at g0 ⊢
        exact g0
      · simp only [if_neg c] at g0 ⊢
        exact g0
    have key1 := key _ hb1 rfl
    unfold stepN at key1
    by_cases c : nearZ P Q (mn (mx (P * q / Q) 1) m) q b.1 b.2 < 0
    · simp only [if_pos c] at key1 ⊢
      exact key1
    · simp only [if_neg c, if_neg n0] at key1 ⊢
      exact key1
/-- Where the first candidate is no nearer than 1 / 1, it is 1 / 1. -/
theorem firstN {P Q m : Int} (hQ : 1 ≤ Q) (hm : 1 ≤ m) (h : ¬ nearZ P Q (mn (mx (P * 1 / Q) 1) m) 1 1 1 < 0) : mn (mx (P * 1 / Q) 1) m = 1 := by
  have c := clampN (x := P * 1 / Q) hm
  refine Classical.byContradiction fun hne => h ?_
  generalize hc : mn (mx (P * 1 / Q) 1) m = c0 at *
  have h2 : c0 ≤ P * 1 / Q := by
    unfold mn mx at hc
    revert hc
    repeat' split
    all_goals omega
  have h3 : c0 * Q ≤ P * 1 := (Int.le_ediv_iff_mul_le (by omega)).mp h2
  have h4 : 2 * Q ≤ c0 * Q := Int.mul_le_mul_of_nonneg_right (by omega) (by omega)
  unfold nearZ offZ
  rw [if_pos (by omega)]
  decide
theorem startN (k : Nat) (P Q m : Int) (hP : 1 ≤ P ∧ P ≤ 1000000000) (hQ : 1 ≤ Q ∧ Q ≤ 1000000000) (hm : 1 ≤ m ∧ m ≤ 1000) : spec_NearestRatio.l0 (k + 2) m 1 P Q 0 0 = spec_NearestRatio.l0 (k + 2) m 1 P Q 1 1 := by
  have nQ : ¬ Q = 0 := by omega
  obtain ⟨e, d0, d1⟩ := downN hP hQ.1 (show (1 : Int) ≤ 1 ∧ (1 : Int) ≤ 1001 by omega)
  have c0 := clampN (x := P * 1 / Q) hm.1
  have w0 : wrap64 (P * 1 / Q + 0) = P * 1 / Q := by rw [Int.add_zero]; exact wr (by omega)
  have hP' : 0 ≤ P ∧ P ≤ 1000000000 := by omega
  have hQ' : 0 ≤ Q ∧ Q ≤ 1000000000 := by omega
  have s0 : Small (mn (mx (P * 1 / Q) 1) m) 1 := ⟨by omega, by omega⟩
  have sb : Small 1 1 := ⟨by omega, by omega⟩
  have t0 : (0 : Int) < 2 := by decide
  have n1 : ¬ (1 : Int) = 0 := by decide
  simp only [spec_NearestRatio.l0, spec_NearestRatio.l1, if_pos hm.1, if_neg nQ, e, w0, if_pos t0, min_specN, max_specN, Option.bind_some, c0.1, if_true, if_neg n1]
  rw [nearer_spec hP' hQ' s0 sb]
  simp only [Option.bind_some]
  by_cases c : nearZ P Q (mn (mx (P * 1 / Q) 1) m) 1 1 1 < 0
  · rw [if_pos c]
  · rw [if_neg c, firstN hQ.1 hm.1 c]
theorem nearest_both (k : Nat) (P Q m : Int) (hk : 1000000010 < k) : ∃ r : Int × Int × Int, spec_NearestRatio.f k P Q m = some r ∧ impl_NearestRatio.f k P Q m = some r := by
  unfold spec_NearestRatio.f impl_NearestRatio.f
  rw [ok_spec k P Q (by omega), ok_impl k P Q (by omega)]
  simp only [Option.bind_some, in_eq, within_eq, decide_eq_true_eq]
  by_cases h : okB P Q = true
  · have ho := okB_true.mp h
    simp only [if_pos h]
    by_cases hm : 1 ≤ m ∧ m ≤ 1000
    · obtain ⟨r, h1, h2⟩ := rowsN P Q m ho.1 ho.2.1 hm m.toNat k 1 (1, 1) (by omega) (by omega) ⟨⟨by omega, hm.1⟩, by omega, hm.1⟩ (by omega)
      obtain ⟨k, rfl⟩ : ∃ m, k = m + 2 := ⟨k - 2, by omega⟩
      simp only [if_pos hm]
      rw [startN k P Q m ho.1 ho.2.1 hm]
      exact ⟨_, h1, h2⟩
    · simp only [if_neg hm]
      exact ⟨_, rfl, rfl⟩
  · simp only [if_neg h]
    exact ⟨_, rfl, rfl⟩
end Go.Proofs.Ytnedmhmliknfgaa.Core
