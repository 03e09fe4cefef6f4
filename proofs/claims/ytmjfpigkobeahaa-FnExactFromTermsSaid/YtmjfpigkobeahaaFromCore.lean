/- Ratios out of terms: both texts. -/
import Derived.Test.YtmjfpigkobeahaaPx17
import Derived.Test.YtmjfpigkobeahaaPx36
import Derived.Test.YtmjfpigkobeahaaPx7
import Derived.Test.YtmjfpigkobeahaaPx8
import Derived.Test.YtmjfpigkobeahaaConvA
import Derived.Test.YtmjfpigkobeahaaCore
namespace Go.Proofs.Ytmjfpigkobeahaa.Core
open Go.RowKit Go.Proofs.Ytmjfpigkobeahaa.P Go.Proofs.YtmjfpigkobeahaaW.PrintWords Go.Proofs.YtmjfpigkobeahaaW.PrintMore
theorem conv_rounds (l : List Int) (hl : l.length ≤ 4000000000) : ∀ (d k : Nat) (x lp lq bp bq : Int) (out : List S27), 0 ≤ x → x + d = l.length → out.length + d ≤ 4000000000 → d < k →
    ∃ r b, spec_l03From.l0 k l out x lp lq bp bq = some (r, if b = true then 0 else 3) ∧ impl_convergents.go (l.drop x.toNat) out lp lq bp bq = some (r, b) ∧ (b = true → r.length = out.length + d) := by
  intro d
  induction d with
  | zero =>
    intro k x lp lq bp bq out h0 h1 ho hk
    obtain ⟨k, rfl⟩ : ∃ m, k = m + 1 := ⟨k - 1, by omega⟩
    refine ⟨out, true, ?_, ?_, fun _ => rfl⟩
    · rw [spec_l03From.l0, if_neg (by omega)]
      rfl
    · rw [List.drop_eq_nil_of_le (by omega)]
      rfl
  | succ d ih =>
    intro k x lp lq bp bq out h0 h1 ho hk
    obtain ⟨k, rfl⟩ : ∃ m, k = m + 1 := ⟨k - 1, by omega⟩
    rw [spec_l03From.l0, if_pos (by omega), if_pos h0, drop_rdV l x h0 (by omega)]
    simp only [impl_convergents.go]
    have hlen : out.length < 8796093022208 := by omega
    rw [wr (n := x + 1) (by omega), if_pos hlen, if_pos hlen]
    generalize wrap64 (wrap64 (rd l x * lp) + bp) = p
    generalize wrap64 (wrap64 (rd l x * lq) + bq) = q
    by_cases c1 : p > 1000000000
    · rw [if_pos c1, if_pos c1]
      exact ⟨[], false, rfl, rfl, fun h => by cases h⟩
    · by_cases c2 : q > 1000000000
      · rw [if_neg c1, if_pos c2, if_neg c1, if_pos c2]
        exact ⟨[], false, rfl, rfl, fun h => by cases h⟩
      · rw [if_neg c1, if_neg c2, if_neg c1, if_neg c2]
        obtain ⟨r, b, e1, e2, e3⟩ := ih k (x + 1) p q lp lq (out ++ [⟨p, q⟩]) (by omega) (by omega) (by simp; omega) (by omega)
        exact ⟨r, b, e1, e2, fun h => by rw [e3 h]; simp; omega⟩
/-- The least that the term at x may be. -/
def lowT (l : List Int) (x : Int) : Int := if x = 0 ∧ (l.length : Int) > 1 then 0 else 1
def okT (l : List Int) (x : Int) : Bool := decide (lowT l x ≤ rd l x ∧ rd l x ≤ 1000000000)
theorem from_step (l : List Int) (hl : l.length ≤ 1048576) (k : Nat) (x : Int) (h0 : 0 ≤ x) (h1 : x < (l.length : Int)) : spec_FromTerms.l0 (k + 2) l true x = spec_FromTerms.l0 k l (okT l x) (x + 1) := by
  rw [spec_FromTerms.l0, if_pos h1, spec_FromTerms.j1, if_pos rfl]
  simp only [if_pos h0, if_pos h1, in_eq, Option.bind_some]
  rw [wr (n := x + 1) (by omega)]
  unfold okT lowT
  by_cases c : x = 0
  · by_cases c2 : (l.length : Int) > 1
    · rw [if_pos c, if_pos c2, if_pos ⟨c, c2⟩]
    · rw [if_pos c, if_neg c2, if_neg (fun h => c2 h.2)]
  · rw [if_neg c, if_neg (fun h => c h.1)]
theorem from_no (l : List Int) (hl : l.length ≤ 1048576) : ∀ (d k : Nat) (ok : Bool) (x : Int), 0 ≤ x → x + d = l.length → (ok = true → ∃ j, x ≤ j ∧ j < (l.length : Int) ∧ okT l j = false) → 2 * d + 2 < k → spec_FromTerms.l0 k l ok x = some (0, 0, 2) := by
  intro d
  induction d with
  | zero =>
    intro k ok x h0 h1 hj hk
    obtain ⟨k, rfl⟩ : ∃ m, k = m + 2 := ⟨k - 2, by omega⟩
    cases ok with
    | true =>
      obtain ⟨j, a, b, _⟩ := hj rfl
      omega
    | false =>
      rw [spec_FromTerms.l0, if_neg (by omega), spec_FromTerms.j1]
      rfl
  | succ d ih =>
    intro k ok x h0 h1 hj hk
    obtain ⟨k, rfl⟩ : ∃ m, k = m + 2 := ⟨k - 2, by omega⟩
    cases ok with
    | false =>
      rw [spec_FromTerms.l0, if_pos (by omega), spec_FromTerms.j1]
      rfl
    | true =>
      rw [from_step l hl k x h0 (by omega)]
      refine ih k _ (x + 1) (by omega) (by omega) (fun h => ?_) (by omega)
      obtain ⟨j, a, b, c⟩ := hj rfl
      by_cases e : j = x
      · subst e
        rw [c] at h
        cases h
      · exact ⟨j, by omega, b, c⟩
theorem from_all (l : List Int) (hl : l.length ≤ 1048576) (hg : ∀ j, 0 ≤ j → j < (l.length : Int) → okT l j = true) : ∀ (d k : Nat) (x : Int), 0 ≤ x → x + d = l.length → spec_FromTerms.l0 (k + 2 * d + 1) l true x = spec_FromTerms.j1 k l true (l.length : Int) false := by
  intro d
  induction d with
  | zero =>
    intro k x h0 h1
    rw [spec_FromTerms.l0, if_neg (by omega), show x = (l.length : Int) by omega]
  | succ d ih =>
    intro k x h0 h1
    rw [show k + 2 * (d + 1) + 1 = (k + 2 * d + 1) + 2 by omega, from_step l hl _ x h0 (by omega), hg x h0 (by omega)]
    exact ih k (x + 1) (by omega) (by omega)
/-- What the program asks of the term at x. -/
def okI (l : List Int) (x : Int) : Bool := decide (mn x 1 ≤ rd l x ∧ rd l x ≤ 1000000000)
theorem impl_fstep (l : List Int) (hl : l.length ≤ 1048576) (k : Nat) (x : Int) (h0 : 0 ≤ x) (h1 : x < (l.length : Int)) : impl_FromTerms.l0 (k + 1) l l (l.length : Int) x = if okI l x = true then impl_FromTerms.l0 k l l (l.length : Int) (x + 1) else some (0, 0, 2) := by
  rw [impl_FromTerms.l0, if_pos h1, if_pos h0, if_pos h1, within_eq, wr (n := x + 1) (by omega)]
  rfl
theorem impl_fno (l : List Int) (hl : l.length ≤ 1048576) : ∀ (d k : Nat) (x : Int), 0 ≤ x → x + d = l.length → (∃ j, x ≤ j ∧ j < (l.length : Int) ∧ okI l j = false) → d < k → impl_FromTerms.l0 k l l (l.length : Int) x = some (0, 0, 2) := by
  intro d
  induction d with
  | zero =>
    intro k x h0 h1 hj hk
    obtain ⟨j, a, b, _⟩ := hj
    omega
  | succ d ih =>
    intro k x h0 h1 hj hk
    obtain ⟨k, rfl⟩ : ∃ m, k = m + 1 := ⟨k - 1, by omega⟩
    rw [impl_fstep l hl k x h0 (by omega)]
    by_cases c : okI l x = true
    · rw [if_pos c]
      refine ih k (x + 1) (by omega) (by omega) ?_ (by omega)
      obtain ⟨j, a, b, e⟩ := hj
      by_cases ej : j = x
      · subst ej
        rw [c] at e
        cases e
      · exact ⟨j, by omega, b, e⟩
    · rw [if_neg c]
theorem impl_fall (l : List Int) (hl : l.length ≤ 1048576) (hg : ∀ j, 0 ≤ j → j < (l.length : Int) → okI l j = true) : ∀ (d k : Nat) (x : Int), 0 ≤ x → x + d = l.length → impl_FromTerms.l0 (k + d) l l (l.length : Int) x = impl_FromTerms.l0 k l l (l.length : Int) (l.length : Int) := by
  intro d
  induction d with
  | zero =>
    intro k x h0 h1
    rw [show x = (l.length : Int) by omega]
    rfl
  | succ d ih =>
    intro k x h0 h1
    rw [show k + (d + 1) = (k + d) + 1 by omega, impl_fstep l hl _ x h0 (by omega), if_pos (hg x h0 (by omega))]
    exact ih k (x + 1) (by omega) (by omega)
theorem fromTerms_both (k : Nat) (l : List Int) (hl : l.length ≤ 1048576) (hk : 10000000 < k) : ∃ r : Int × Int × Int, spec_FromTerms.f k l = some r ∧ impl_FromTerms.f k l = some r := by
  unfold spec_FromTerms.f impl_FromTerms.f
  rw [in_eq, within_eq]
  simp only [Option.bind_some, decide_eq_true_eq]
  by_cases h1 : 1 ≤ (l.length : Int) ∧ (l.length : Int) ≤ 60
  · rw [decide_eq_true h1, if_pos h1]
    -- the test of a single 0
    have hj : ∀ bad : Bool, (bad = true ↔ ((l.length : Int) = 1 ∧ rd l 0 = 0)) → ∃ r : Int × Int × Int, spec_FromTerms.l0 k l true 0 = some r ∧ impl_FromTerms.j0 k l bad = some r := by
      intro bad hbad
      by_cases hg : ∀ j, 0 ≤ j → j < (l.length : Int) → okT l j = true
      · have hgI : ∀ j, 0 ≤ j → j < (l.length : Int) → okI l j = true := fun j a b => by
          have := hg j a b
          unfold okT lowT at this
          unfold okI mn
          simp only [decide_eq_true_eq] at this ⊢
          revert this
          repeat' split
          all_goals omega
        have hnb : bad = false := by
          cases bad with
          | false => rfl
          | true =>
            obtain ⟨e1, e2⟩ := hbad.mp rfl
            have := hg 0 (by omega) (by omega)
            unfold okT lowT at this
            rw [if_neg (by omega), e2] at this
            simp at this
        subst hnb
        obtain ⟨r, b, e1, e2, e3⟩ := conv_rounds l (by omega) l.length (k - 2 * l.length - 2) 0 1 0 0 1 [] (by omega) (by omega) (by simp; omega) (by omega)
        have s0 := from_all l hl hg l.length (k - 2 * l.length - 1) 0 (by omega) (by omega)
        rw [show k - 2 * l.length - 1 + 2 * l.length + 1 = k by omega] at s0
        have i0 := impl_fall l hl hgI l.length (k - 1 - l.length) 0 (by omega) (by omega)
        rw [show k - 1 - l.length + l.length = k - 1 by omega] at i0
        obtain ⟨k1, hk1⟩ : ∃ m, k = m + 1 := ⟨k - 1, by omega⟩
        obtain ⟨k2, hk2⟩ : ∃ m, k - 2 * l.length - 1 = m + 1 := ⟨k - 2 * l.length - 2, by omega⟩
        obtain ⟨k3, hk3⟩ : ∃ m, k - 1 - l.length = m + 1 := ⟨k - 1 - l.length - 1, by omega⟩
        have eI : impl_FromTerms.j0 k l false = impl_FromTerms.l0 (k - 1) l l (l.length : Int) 0 := by
          rw [hk1]
          rfl
        rw [s0, eI, i0, hk2, hk3, spec_FromTerms.j1, impl_FromTerms.l0, if_neg (by decide), if_pos rfl, if_neg (by omega)]
        rw [show k - 2 * l.length - 2 = k2 by omega] at e1
        unfold spec_l03From.f impl_convergents.f
        rw [e1, show l = l.drop (0 : Int).toNat from rfl, e2]
        simp only [Option.bind_some]
        cases b with
        | true =>
          have hr := e3 rfl
          simp at hr
          have hle : 0 ≤ wrap64 ((r.length : Int) - 1) ∧ wrap64 ((r.length : Int) - 1) < (r.length : Int) := by
            rw [wr (by omega)]
            omega
          simp only [if_true, if_pos hle.1, if_pos hle.2]
          exact ⟨_, rfl, rfl⟩
        | false =>
          exact ⟨(0, 0, 3), rfl, rfl⟩
      · have hex : ∃ j, 0 ≤ j ∧ j < (l.length : Int) ∧ okT l j = false := by
          refine Classical.byContradiction fun hne => hg fun j a b => ?_
          cases h : okT l j with
          | true => rfl
          | false => exact absurd ⟨j, a, b, h⟩ hne
        refine ⟨(0, 0, 2), from_no l hl l.length k true 0 (by omega) (by omega) (fun _ => hex) (by omega), ?_⟩
        obtain ⟨k, rfl⟩ : ∃ m, k = m + 1 := ⟨k - 1, by omega⟩
        cases bad with
        | true => rfl
        | false =>
          show impl_FromTerms.l0 k l l (l.length : Int) 0 = _
          refine impl_fno l hl l.length k 0 (by omega) (by omega) ?_ (by omega)
          obtain ⟨j, a, b, e⟩ := hex
          refine ⟨j, a, b, ?_⟩
          have hnb : ¬ ((l.length : Int) = 1 ∧ rd l 0 = 0) := fun h => by have := hbad.mpr h; cases this
          unfold okT lowT at e
          unfold okI mn
          simp only [decide_eq_false_iff_not] at e ⊢
          by_cases ej : j = 0
          · subst ej
            revert e
            repeat' split
            all_goals omega
          · revert e
            repeat' split
            all_goals omega
    by_cases h2 : (l.length : Int) = 1
    · rw [if_pos h2, if_pos (by omega)]
      exact hj _ (by simp [h2])
    · rw [if_neg h2]
      exact hj false (by simp [h2])
  · rw [decide_eq_false h1, if_neg h1]
    obtain ⟨k, rfl⟩ : ∃ m, k = m + 1 := ⟨k - 1, by omega⟩
    exact ⟨(0, 0, 2), from_no l hl l.length (k + 1) false 0 (by omega) (by omega) (fun h => by cases h) (by omega), rfl⟩
theorem eqRatio_selfF (p q : Int) : laws_eqRatio.f p q p q = some true := by
  unfold laws_eqRatio.f
  simp
end Go.Proofs.Ytmjfpigkobeahaa.Core
