/- What an eye reads: both texts in plain words. -/
import Derived.Test.YtcapjgjjaolofaaMotOk
import Derived.Test.YtcapjgjjaolofaaEyeF
namespace Go.Proofs.Ytcapjgjjaolofaa.Core
open Go.RowKit Go.Proofs.Ytcapjgjjaolofaa.P Go.Proofs.YtcapjgjjaolofaaW.PrintWords Go.Proofs.YtcapjgjjaolofaaW.PrintMore
theorem zero_same (n : Int) : zeroS n = zeroI n := by
  unfold zeroS zeroI
  rw [Bool.eq_iff_iff]
  simp
  omega
theorem givB_same (l d : List Int) : givB zeroS l d = givB zeroI l d := by
  induction d generalizing l with
  | nil => cases l <;> rfl
  | cons n d ih =>
    cases l with
    | nil =>
      simp only [givB]
      rw [zero_same, ih []]
    | cons b l =>
      simp only [givB]
      rw [ih l]
theorem wholeZ_eq {b : Int} (h : 2 ≤ b ∧ b ≤ 100) : wholeZ b = b * 1000 := by
  unfold wholeZ
  rw [wr (n := b) (by omega), wr (by omega)]
/-- What is known of the part of a wheel. -/
theorem givB_at {zero : Int → Bool} {l d : List Int} (h : givB zero l d = true) (hb : ∀ b ∈ l, 2 ≤ b ∧ b ≤ 100) (x : Int) (h0 : 0 ≤ x) (h1 : x < (l.length : Int)) (h2 : x < (d.length : Int)) : 0 ≤ rd d x ∧ rd d x < rd l x * 1000 ∧ 2 ≤ rd l x ∧ rd l x ≤ 100 := by
  have key : ∀ (n : Nat) (l d : List Int), givB zero l d = true → (∀ b ∈ l, 2 ≤ b ∧ b ≤ 100) → n < l.length → n < d.length → 0 ≤ d.getD n 0 ∧ d.getD n 0 < l.getD n 0 * 1000 ∧ 2 ≤ l.getD n 0 ∧ l.getD n 0 ≤ 100 := by
    intro n
    induction n with
    | zero =>
      intro l d h hb h1 h2
      cases l with
      | nil => simp at h1
      | cons b l =>
        cases d with
        | nil => simp at h2
        | cons m d =>
          simp only [givB, Bool.and_eq_true, decide_eq_true_eq] at h
          have hbb := hb b (by simp)
          rw [wholeZ_eq hbb, wr (by omega)] at h
          simp
          omega
    | succ n ih =>
      intro l d h hb h1 h2
      cases l with
      | nil => simp at h1
      | cons b l =>
        cases d with
        | nil => simp at h2
        | cons m d =>
          simp only [givB, Bool.and_eq_true] at h
          have := ih l d h.2 (fun c hc => hb c (by simp [hc])) (by simpa using h1) (by simpa using h2)
          simpa using this
  exact key x.toNat l d h hb (by omega) (by omega)
theorem rd_same (y b n : Int) (hb : 2 ≤ b ∧ b ≤ 100) (h0 : 0 ≤ n) (h1 : n < b * 1000) : rdS y b n = rdI y b n := by
  unfold rdS rdI
  split
  · rfl
  · have e : n.tdiv 1000 = n / 1000 := Int.tdiv_eq_ediv_of_nonneg h0
    have hd : 0 ≤ n / 1000 ∧ n / 1000 < b := ⟨by omega, by omega⟩
    rw [e, wr (n := n / 1000) (by omega), wr (n := b) (by omega), Int.tmod_eq_emod_of_nonneg (by omega), Int.emod_eq_of_lt hd.1 hd.2]
theorem readL_same (y : Int) (l d : List Int) (hb : ∀ b ∈ l, 2 ≤ b ∧ b ≤ 100) (hg : givB zeroI l d = true) : readL (rdS y) l d = readL (rdI y) l d := by
  induction d generalizing l with
  | nil => cases l <;> rfl
  | cons n d ih =>
    cases l with
    | nil =>
      simp only [givB, Bool.and_eq_true] at hg
      simp only [readL]
      rw [ih [] (by simp) hg.2]
    | cons b l =>
      simp only [givB, Bool.and_eq_true, decide_eq_true_eq] at hg
      have hbb := hb b (by simp)
      rw [wholeZ_eq hbb, wr (by omega)] at hg
      simp only [readL]
      rw [ih l (fun c hc => hb c (by simp [hc])) hg.2, rd_same y b n hbb hg.1.1 (by omega)]
theorem eye_spec (y : Int) : spec_l02Eye.f y = some (decide (0 ≤ y ∧ y ≤ 1)) := by
  unfold spec_l02Eye.f
  rw [in_fK]
  rfl
theorem eye_impl (y : Int) : impl_isEye.f y = some (decide (0 ≤ y ∧ y ≤ 1)) := by
  unfold impl_isEye.f
  by_cases h : y = 0
  · rw [if_pos h]
    simp [h]
  · rw [if_neg h]
    congr 1
    rw [Bool.eq_iff_iff]
    simp
    omega
end Go.Proofs.Ytcapjgjjaolofaa.Core
