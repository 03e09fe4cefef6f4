/- Parts moved on: both texts in plain words. -/
import Derived.Test.YtcapjgjjaolofaaPx12
import Derived.Test.YtcapjgjjaolofaaPx9
import Derived.Test.YtcapjgjjaolofaaPx8
import Derived.Test.YtcapjgjjaolofaaMotOk
import Derived.Test.YtcapjgjjaolofaaFloor
import Derived.Test.YtcapjgjjaolofaaBumpF
namespace Go.Proofs.Ytcapjgjjaolofaa.Core
open Go.RowKit Go.Proofs.Ytcapjgjjaolofaa.P Go.Proofs.YtcapjgjjaolofaaW.PrintWords Go.Proofs.YtcapjgjjaolofaaW.PrintMore
theorem wheel_implB (l : List Int) (a : Int) (hl : l.length ≤ 1048576) : impl_Stack_hasWheel.f l a = some (decide (0 ≤ a ∧ a < l.length)) := by
  unfold impl_Stack_hasWheel.f impl_Stack_wheels.f
  simp only [Option.bind_some]
  rw [within_f, wr (by omega)]
  simp only [Option.bind_some]
  congr 1
  exact decide_eq_decide.mpr ⟨fun h => ⟨h.1, by omega⟩, fun h => ⟨h.1, by omega⟩⟩
theorem zero_same (n : Int) : zeroS n = zeroI n := by
  unfold zeroS zeroI
  rw [Bool.eq_iff_iff]
  simp
  omega
theorem givB_same (l d : List Int) : givB zeroS l d = givB zeroI l d := by
  induction d generalizing l with
  | nil => cases l <;> rfl
  | cons n d ih =>
    cases l with
    | nil =>
      simp only [givB]
      rw [zero_same, ih []]
    | cons b l =>
      simp only [givB]
      rw [ih l]
theorem wholeZ_eq {b : Int} (h : 2 ≤ b ∧ b ≤ 100) : wholeZ b = b * 1000 := by
  unfold wholeZ
  rw [wr (n := b) (by omega), wr (by omega)]
/-- What is known of the part of a wheel. -/
theorem givB_at {zero : Int → Bool} {l d : List Int} (h : givB zero l d = true) (hb : ∀ b ∈ l, 2 ≤ b ∧ b ≤ 100) (x : Int) (h0 : 0 ≤ x) (h1 : x < (l.length : Int)) (h2 : x < (d.length : Int)) : 0 ≤ rd d x ∧ rd d x < rd l x * 1000 ∧ 2 ≤ rd l x ∧ rd l x ≤ 100 := by
  have key : ∀ (n : Nat) (l d : List Int), givB zero l d = true → (∀ b ∈ l, 2 ≤ b ∧ b ≤ 100) → n < l.length → n < d.length → 0 ≤ d.getD n 0 ∧ d.getD n 0 < l.getD n 0 * 1000 ∧ 2 ≤ l.getD n 0 ∧ l.getD n 0 ≤ 100 := by
    intro n
    induction n with
    | zero =>
      intro l d h hb h1 h2
      cases l with
      | nil => simp at h1
      | cons b l =>
        cases d with
        | nil => simp at h2
        | cons m d =>
          simp only [givB, Bool.and_eq_true, decide_eq_true_eq] at h
          have hbb := hb b (by simp)
          rw [wholeZ_eq hbb, wr (by omega)] at h
          simp
          omega
    | succ n ih =>
      intro l d h hb h1 h2
      cases l with
      | nil => simp at h1
      | cons b l =>
        cases d with
        | nil => simp at h2
        | cons m d =>
          simp only [givB, Bool.and_eq_true] at h
          have := ih l d h.2 (fun c hc => hb c (by simp [hc])) (by simpa using h1) (by simpa using h2)
          simpa using this
  exact key x.toNat l d h hb (by omega) (by omega)
theorem bump_both (l d : List Int) (x n : Int) (hv : validB l = true) (hg : givB zeroI l d = true) (h0 : 0 ≤ x) (h1 : x < (l.length : Int)) (h2 : x < (d.length : Int)) (hn : -1000 ≤ n ∧ n ≤ 1000) :
    ¬ wholeZ (rd l x) = 0 ∧ ∃ q2, impl_wrapped.f (wrap64 (rd d x + n)) (wholeZ (rd l x)) = some (bumpS l d x n, q2) := by
  obtain ⟨a1, a2, a3, a4⟩ := givB_at hg (validB_base hv) x h0 h1 h2
  have hw := wholeZ_eq ⟨a3, a4⟩
  refine ⟨by omega, (rd d x + n) / (rd l x * 1000), ?_⟩
  rw [wr (n := rd d x + n) (by omega), hw, wrapped_eq _ _ (by omega) (by omega) (by omega) (by omega)]
  unfold bumpS
  rw [hw, wr (n := rd d x + n) (by omega), wr (n := rd d x + n + rd l x * 1000) (by omega), Int.tmod_eq_emod_of_nonneg (by omega), Int.add_emod_right]
end Go.Proofs.Ytcapjgjjaolofaa.Core
