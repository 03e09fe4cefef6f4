/- The convergents of a ratio: both texts. -/
import Derived.Test.YtmjfpigkobeahaaPx15
import Derived.Test.YtmjfpigkobeahaaPx7
import Derived.Test.YtmjfpigkobeahaaPx9
import Derived.Test.YtmjfpigkobeahaaPx16
import Derived.Test.YtmjfpigkobeahaaPx8
import Derived.Test.YtmjfpigkobeahaaConvB
import Derived.Test.YtmjfpigkobeahaaCore
namespace Go.Proofs.Ytmjfpigkobeahaa.Core
open Go.RowKit Go.Proofs.Ytmjfpigkobeahaa.P Go.Proofs.YtmjfpigkobeahaaW.PrintWords Go.Proofs.YtmjfpigkobeahaaW.PrintMore
theorem convN_rounds (l : List Int) (hl : l.length ≤ 4000000000) : ∀ (d k : Nat) (x lp lq bp bq : Int) (out : List S27), 0 ≤ x → x + d = l.length → out.length + d ≤ 4000000000 → d < k →
    ∃ r b, spec_l03From.l0 k l out x lp lq bp bq = some (r, if b = true then 0 else 3) ∧ impl_convergents.go (l.drop x.toNat) out lp lq bp bq = some (r, b) ∧ (b = true → r.length = out.length + d) := by
  intro d
  induction d with
  | zero =>
    intro k x lp lq bp bq out h0 h1 ho hk
    obtain ⟨k, rfl⟩ : ∃ m, k = m + 1 := ⟨k - 1, by omega⟩
    refine ⟨out, true, ?_, ?_, fun _ => rfl⟩
    · rw [spec_l03From.l0, if_neg (by omega)]
      rfl
    · rw [List.drop_eq_nil_of_le (by omega)]
      rfl
  | succ d ih =>
    intro k x lp lq bp bq out h0 h1 ho hk
    obtain ⟨k, rfl⟩ : ∃ m, k = m + 1 := ⟨k - 1, by omega⟩
    rw [spec_l03From.l0, if_pos (by omega), if_pos h0, drop_rdV l x h0 (by omega)]
    simp only [impl_convergents.go]
    have hlen : out.length < 8796093022208 := by omega
    rw [wr (n := x + 1) (by omega), if_pos hlen, if_pos hlen]
    generalize wrap64 (wrap64 (rd l x * lp) + bp) = p
    generalize wrap64 (wrap64 (rd l x * lq) + bq) = q
    by_cases c1 : p > 1000000000
    · rw [if_pos c1, if_pos c1]
      exact ⟨[], false, rfl, rfl, fun h => by cases h⟩
    · by_cases c2 : q > 1000000000
      · rw [if_neg c1, if_pos c2, if_neg c1, if_pos c2]
        exact ⟨[], false, rfl, rfl, fun h => by cases h⟩
      · rw [if_neg c1, if_neg c2, if_neg c1, if_neg c2]
        obtain ⟨r, b, e1, e2, e3⟩ := ih k (x + 1) p q lp lq (out ++ [⟨p, q⟩]) (by omega) (by omega) (by simp; omega) (by omega)
        exact ⟨r, b, e1, e2, fun h => by rw [e3 h]; simp; omega⟩

/-- The terms of p / q, n of them at most. -/
def eucN : Nat → Int → Int → List Int
  | 0, _, _ => []
  | n + 1, p, q => if q = 0 then [] else (p / q) :: eucN n q (p % q)
theorem eucN_len : ∀ (n : Nat) (p q : Int), (eucN n p q).length ≤ n := by
  intro n
  induction n with
  | zero => intro p q; exact Nat.le_refl _
  | succ n ih =>
    intro p q
    rw [eucN]
    split
    · simp
    · have := ih q (p % q)
      simp
      exact this
theorem eucN_terms : ∀ (n k : Nat) (o : List Int) (p q : Int), 0 ≤ q → q ≤ n → 0 ≤ p → p ≤ 1000000000000 → q ≤ 1000000000000 → n + o.length ≤ 3000000000 → n < k →
    spec_l03Terms.l0 k o p q = some (o ++ eucN n p q) ∧ impl_Ratio_terms.l0 k o p q = some (o ++ eucN n p q) := by
  intro n
  induction n with
  | zero =>
    intro k o p q h0 h1 hp hp2 hq2 ho hk
    obtain ⟨k, rfl⟩ : ∃ m, k = m + 1 := ⟨k - 1, by omega⟩
    simp only [spec_l03Terms.l0, impl_Ratio_terms.l0]
    exact ⟨by rw [if_pos (by omega), eucN, List.append_nil], by rw [if_neg (by omega), eucN, List.append_nil]⟩
  | succ n ih =>
    intro k o p q h0 h1 hp hp2 hq2 ho hk
    obtain ⟨k, rfl⟩ : ∃ m, k = m + 1 := ⟨k - 1, by omega⟩
    simp only [spec_l03Terms.l0, impl_Ratio_terms.l0]
    by_cases c : q = 0
    · have e : eucN (n + 1) p q = [] := by rw [eucN, if_pos c]
      rw [e]
      exact ⟨by rw [if_pos c, List.append_nil], by rw [if_neg (by omega), List.append_nil]⟩
    · have e1 := Int.tdiv_eq_ediv_of_nonneg (b := q) hp
      have e2 := Int.tmod_eq_emod_of_nonneg (b := q) hp
      have d1 := Int.emod_nonneg p c
      have d2 := Int.emod_lt_of_pos p (show 0 < q by omega)
      have d3 := Int.ediv_nonneg hp h0
      have d4 := Int.ediv_le_self q hp
      obtain ⟨a, b⟩ := ih k (o ++ [p / q]) q (p % q) d1 (by omega) h0 hq2 (by omega) (by simp; omega) (by omega)
      rw [if_neg c, if_pos (by omega), if_pos (by omega), if_neg c, if_pos (by omega), e1, e2, wr (by omega), a, b, eucN, if_neg c, List.append_assoc]
      exact ⟨rfl, rfl⟩
/-- From the second term on: no number grows too great, and none is 0. -/
theorem conv_good : ∀ (n : Nat) (p q lp lq bp bq : Int) (out : List SR), 0 ≤ q → q < p → q ≤ n → 0 ≤ lp → 0 ≤ lq → 0 ≤ bp → 0 ≤ bq → 1 ≤ lp + bp → lp * p + bp * q ≤ 1000000000 → lq * p + bq * q ≤ 1000000000 → out.length + n ≤ 4000000000 →
    ∃ cv, impl_convergents.go (eucN n p q) out lp lq bp bq = some (out ++ cv, true) ∧ (cv.all (fun r => !(r.f0 == 0))) = true := by
  intro n
  induction n with
  | zero =>
    intro p q lp lq bp bq out h0 h1 h2 a b c d e f g hl
    exact ⟨[], by rw [eucN, impl_convergents.go, List.append_nil], rfl⟩
  | succ n ih =>
    intro p q lp lq bp bq out h0 h1 h2 a b c d e f g hl
    rw [eucN]
    by_cases z : q = 0
    · rw [if_pos z]
      exact ⟨[], by rw [impl_convergents.go, List.append_nil], rfl⟩
    · rw [if_neg z]
      have d1 := Int.emod_nonneg p z
      have d2 := Int.emod_lt_of_pos p (show 0 < q by omega)
      have d3 := Int.mul_ediv_add_emod p q
      have d4 : 1 ≤ p / q := by
        rw [Int.le_ediv_iff_mul_le (by omega)]
        omega
      generalize hA : p / q = A at *
      generalize hM : p % q = M at *
      have key : ∀ l b' : Int, 0 ≤ l → 0 ≤ b' → l * p + b' * q ≤ 1000000000 → 0 ≤ A * l ∧ (A * l + b') * q + l * M = l * p + b' * q ∧ A * l + b' ≤ 1000000000 := by
        intro l b' hl0 hb0 hle
        have k1 : 0 ≤ A * l := Int.mul_nonneg (by omega) hl0
        have k2 : (A * l + b') * q + l * M = l * p + b' * q := by
          rw [← d3, Int.mul_add, Int.add_mul, Int.mul_comm A l, Int.mul_assoc, Int.mul_comm A q]
          omega
        have k3 : 0 ≤ l * M := Int.mul_nonneg hl0 d1
        have k4 : (A * l + b') * 1 ≤ (A * l + b') * q := Int.mul_le_mul_of_nonneg_left (by omega) (by omega)
        exact ⟨k1, k2, by omega⟩
      obtain ⟨x1, x2, x3⟩ := key lp bp a c f
      obtain ⟨y1, y2, y3⟩ := key lq bq b d g
      have m1 : 1 * lp ≤ A * lp := Int.mul_le_mul_of_nonneg_right d4 a
      obtain ⟨cv, r1, r2⟩ := ih q M (A * lp + bp) (A * lq + bq) lp lq (out ++ [⟨A * lp + bp, A * lq + bq⟩]) d1 d2 (by omega) (by omega) (by omega) a b (by omega) (by omega) (by omega) (by simp; omega)
      refine ⟨⟨A * lp + bp, A * lq + bq⟩ :: cv, ?_, ?_⟩
      · simp only [impl_convergents.go]
        rw [wr (show -9223372036854775808 ≤ A * lp ∧ A * lp ≤ 9223372036854775807 by omega), wr (show -9223372036854775808 ≤ A * lp + bp ∧ A * lp + bp ≤ 9223372036854775807 by omega), wr (show -9223372036854775808 ≤ A * lq ∧ A * lq ≤ 9223372036854775807 by omega), wr (show -9223372036854775808 ≤ A * lq + bq ∧ A * lq + bq ≤ 9223372036854775807 by omega), if_neg (by omega), if_neg (by omega), if_pos (by omega), r1, List.append_assoc]
        rfl
      · rw [List.all_cons, r2, Bool.and_true]
        have : ¬ A * lp + bp = 0 := by omega
        simpa using this
theorem conv_all (P Q : Int) (hP : 1 ≤ P ∧ P ≤ 1000000000) (hQ : 1 ≤ Q ∧ Q ≤ 1000000000) : ∃ all, impl_convergents.f (eucN (Q.toNat + 1) P Q) = some (all, true) ∧ goodR all = true := by
  have d1 := Int.emod_nonneg P (show Q ≠ 0 by omega)
  have d2 := Int.emod_lt_of_pos P (show 0 < Q by omega)
  have d3 := Int.mul_ediv_add_emod P Q
  have d4 := Int.ediv_nonneg (show 0 ≤ P by omega) (show 0 ≤ Q by omega)
  have d5 := Int.ediv_le_self Q (show 0 ≤ P by omega)
  unfold impl_convergents.f
  rw [eucN, if_neg (by omega)]
  generalize hA : P / Q = A at *
  generalize hM : P % Q = M at *
  simp only [impl_convergents.go]
  rw [Int.mul_one, Int.mul_zero, wr (show -9223372036854775808 ≤ A ∧ A ≤ 9223372036854775807 by omega), Int.add_zero, wr (show -9223372036854775808 ≤ A ∧ A ≤ 9223372036854775807 by omega), wr (show -9223372036854775808 ≤ (0 : Int) ∧ (0 : Int) ≤ 9223372036854775807 by omega), Int.zero_add, wr (show -9223372036854775808 ≤ (1 : Int) ∧ (1 : Int) ≤ 9223372036854775807 by omega), if_neg (by omega), if_neg (by omega), if_pos (by simp)]
  obtain ⟨cv, r1, r2⟩ := conv_good Q.toNat Q M A 1 1 0 [⟨A, 1⟩] d1 d2 (by omega) d4 (by omega) (by omega) (by omega) (by omega) (by rw [Int.mul_comm A Q]; omega) (by omega) (by simp; omega)
  refine ⟨_, r1, ?_⟩
  rw [goodR, Bool.and_eq_true]
  exact ⟨by simp, r2⟩
theorem convOf_both (k : Nat) (P Q : Int) (hk : 1000000002 < k) : ∃ r : List SR × Int, r.1.length ≤ 2000000000 ∧ spec_ConvergentsOf.f k P Q = some r ∧ impl_ConvergentsOf.f k P Q = some r := by
  unfold spec_ConvergentsOf.f impl_ConvergentsOf.f
  rw [ok_spec k P Q (by omega), ok_impl k P Q (by omega)]
  simp only [Option.bind_some]
  by_cases h : okB P Q = true
  · obtain ⟨hP, hQ, _⟩ := okB_true.mp h
    obtain ⟨all, c1, c2⟩ := conv_all P Q hP hQ
    obtain ⟨t1, t2⟩ := eucN_terms (Q.toNat + 1) k [] P Q (by omega) (by omega) (by omega) (by omega) (by omega) (by simp; omega) (by omega)
    have hl := eucN_len (Q.toNat + 1) P Q
    obtain ⟨r, b, s1, s2, s3⟩ := convN_rounds (eucN (Q.toNat + 1) P Q) (by omega) (eucN (Q.toNat + 1) P Q).length k 0 1 0 0 1 [] (by omega) (by omega) (by simp; omega) (by omega)
    have e : some (r, b) = some (all, true) := s2.symm.trans c1
    injection e with e
    obtain ⟨rfl, rfl⟩ := Prod.mk.inj e
    have s4 := s3 rfl
    simp at s4
    obtain ⟨g1, _, _⟩ := good_idx c2
    unfold spec_l03Terms.f impl_Ratio_terms.f spec_l03From.f
    rw [if_pos h, if_pos h, t1, t2]
    simp only [List.nil_append, Option.bind_some, s1, c1]
    rw [if_pos c2, if_pos (by omega)]
    unfold delZ
    by_cases z : (rd_T27 r 0).f0 = 0
    · rw [if_pos z, if_pos (by omega), if_pos (by simp; omega), if_pos (by simpa using z)]
      exact ⟨_, by simp; omega, rfl, rfl⟩
    · rw [if_neg z, if_neg (by simpa using z)]
      exact ⟨_, by simp; omega, rfl, rfl⟩
  · rw [if_neg h, if_neg h]
    exact ⟨_, by simp, rfl, rfl⟩
/-! ### Held against itself, marked, and found so -/
theorem eqR_rounds (l : List SR) (hl : l.length ≤ 4000000000) : ∀ (d k : Nat) (x : Int), 0 ≤ x → x + d = l.length → d < k → laws_eqRatioS.l0 k l l x = some true := by
  intro d
  induction d with
  | zero =>
    intro k x h0 h1 hk
    obtain ⟨k, rfl⟩ : ∃ m, k = m + 1 := ⟨k - 1, by omega⟩
    simp only [laws_eqRatioS.l0]
    rw [if_neg (by omega)]
  | succ d ih =>
    intro k x h0 h1 hk
    obtain ⟨k, rfl⟩ : ∃ m, k = m + 1 := ⟨k - 1, by omega⟩
    simp only [laws_eqRatioS.l0, laws_eqRatio.f, if_true, Option.bind_some]
    rw [if_pos (by omega), if_pos h0, if_pos (by omega), wr (by omega)]
    exact ih k (x + 1) (by omega) (by omega) (by omega)
theorem eqR_self (k : Nat) (l : List SR) (hl : l.length ≤ 4000000000) (hk : l.length < k) : laws_eqRatioS.f k l l = some true := by
  unfold laws_eqRatioS.f
  rw [if_pos rfl]
  exact eqR_rounds l hl l.length k 0 (by omega) (by omega) hk
theorem rdR_set_other (l : List SR) (i j : Int) (v : SR) (h0 : 0 ≤ i) (h1 : 0 ≤ j) (hn : i ≠ j) : rd_T27 (l.set i.toNat v) j = rd_T27 l j := by
  unfold rd_T27
  rw [List.getD_eq_getElem?_getD, List.getD_eq_getElem?_getD, List.getElem?_set_ne (by omega)]
theorem rdR_set_self (l : List SR) (i : Int) (v : SR) (h0 : 0 ≤ i) (h1 : i < (l.length : Int)) : rd_T27 (l.set i.toNat v) i = v := by
  unfold rd_T27
  rw [List.getD_eq_getElem?_getD, List.getElem?_set_self (by omega)]
  rfl
def mkR (j : Int) : SR := ⟨2 * j + 1, 2 * j + 1 + 1⟩
theorem markR_rounds : ∀ (d k : Nat) (l : List SR) (x : Int), l.length ≤ 4000000000 → 0 ≤ x → x + d = l.length → d < k →
    ∃ l', laws_markRatioS.l0 k l (2 * x + 1) x = some (2 * (l.length : Int) + 1, l') ∧ l'.length = l.length ∧ (∀ j, 0 ≤ j → j < x → rd_T27 l' j = rd_T27 l j) ∧ (∀ j, x ≤ j → j < (l.length : Int) → rd_T27 l' j = mkR j) := by
  intro d
  induction d with
  | zero =>
    intro k l x hl h0 h1 hk
    obtain ⟨k, rfl⟩ : ∃ m, k = m + 1 := ⟨k - 1, by omega⟩
    simp only [laws_markRatioS.l0]
    rw [if_neg (by omega)]
    exact ⟨l, by rw [show x = (l.length : Int) by omega], rfl, fun _ _ _ => rfl, fun j _ _ => by omega⟩
  | succ d ih =>
    intro k l x hl h0 h1 hk
    obtain ⟨k, rfl⟩ : ∃ m, k = m + 1 := ⟨k - 1, by omega⟩
    simp only [laws_markRatioS.l0]
    rw [if_pos (by omega), if_pos h0, Option.bind_some, rdR_set_self l x _ h0 (by omega), List.set_set, wr (show -9223372036854775808 ≤ 2 * x + 1 + 1 ∧ 2 * x + 1 + 1 ≤ 9223372036854775807 by omega), wr (show -9223372036854775808 ≤ 2 * x + 1 + 1 + 1 ∧ 2 * x + 1 + 1 + 1 ≤ 9223372036854775807 by omega), wr (show -9223372036854775808 ≤ x + 1 ∧ x + 1 ≤ 9223372036854775807 by omega)]
    obtain ⟨l', e, e2, e3, e4⟩ := ih k (l.set x.toNat (mkR x)) (x + 1) (by rw [List.length_set]; omega) (by omega) (by rw [List.length_set]; omega) (by omega)
    rw [List.length_set] at e e2 e4
    rw [show 2 * (x + 1) + 1 = 2 * x + 1 + 1 + 1 by omega] at e
    refine ⟨l', e, e2, fun j a b => ?_, fun j a b => ?_⟩
    · rw [e3 j a (by omega), rdR_set_other l x j _ h0 a (by omega)]
    · by_cases c : j = x
      · subst c
        rw [e3 j (by omega) (by omega), rdR_set_self l j _ h0 b]
      · exact e4 j (by omega) b
theorem heldR_rounds (l : List SR) (hl : l.length ≤ 4000000000) (hm : ∀ j, 0 ≤ j → j < (l.length : Int) → rd_T27 l j = mkR j) : ∀ (d k : Nat) (x : Int), 0 ≤ x → x + d = l.length → d < k → laws_heldRatioS.l0 k l (2 * x + 1) x = some (2 * (l.length : Int) + 1) := by
  intro d
  induction d with
  | zero =>
    intro k x h0 h1 hk
    obtain ⟨k, rfl⟩ : ∃ m, k = m + 1 := ⟨k - 1, by omega⟩
    simp only [laws_heldRatioS.l0]
    rw [if_neg (by omega), show x = (l.length : Int) by omega]
  | succ d ih =>
    intro k x h0 h1 hk
    obtain ⟨k, rfl⟩ : ∃ m, k = m + 1 := ⟨k - 1, by omega⟩
    simp only [laws_heldRatioS.l0]
    rw [if_pos (by omega), if_pos h0, hm x h0 (by omega), wr (show -9223372036854775808 ≤ 2 * x + 1 + 1 ∧ 2 * x + 1 + 1 ≤ 9223372036854775807 by omega), wr (show -9223372036854775808 ≤ 2 * x + 1 + 1 + 1 ∧ 2 * x + 1 + 1 + 1 ≤ 9223372036854775807 by omega), wr (show -9223372036854775808 ≤ x + 1 ∧ x + 1 ≤ 9223372036854775807 by omega)]
    have := ih k (x + 1) (by omega) (by omega) (by omega)
    rw [show 2 * (x + 1) + 1 = 2 * x + 1 + 1 + 1 by omega] at this
    simp only [mkR, if_true]
    exact this
theorem markR (k : Nat) (l : List SR) (hl : l.length ≤ 4000000000) (hk : l.length < k) : ∃ l', laws_markRatioS.f k l 1 = some (2 * (l.length : Int) + 1, l') ∧ ∀ k', l.length < k' → laws_heldRatioS.f k' l' 1 = some (2 * (l.length : Int) + 1) := by
  unfold laws_markRatioS.f laws_heldRatioS.f
  obtain ⟨l', e, e2, _, e4⟩ := markR_rounds l.length k l 0 hl (by omega) (by omega) hk
  refine ⟨l', e, fun k' hk' => ?_⟩
  have := heldR_rounds l' (by omega) (by rw [e2]; exact fun j a b => e4 j a b) l.length k' 0 (by omega) (by omega) hk'
  rw [e2] at this
  exact this
end Go.Proofs.Ytmjfpigkobeahaa.Core
