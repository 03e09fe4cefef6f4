/- Two stacks held against each other: both texts. -/
import Derived.Test.YtcapjgjjaolofaaStackCore
import Derived.Test.YtcapjgjjaolofaaPx21
namespace Go.Proofs.Ytcapjgjjaolofaa.Core
open Go.RowKit Go.Proofs.Ytcapjgjjaolofaa.P Go.Proofs.YtcapjgjjaolofaaW.PrintWords Go.Proofs.YtcapjgjjaolofaaW.PrintMore
theorem drop_eq_iff (a b : List Int) (x : Int) (h0 : 0 ≤ x) (h1 : x < a.length) (h2 : a.length = b.length) : (a.drop x.toNat = b.drop x.toNat) ↔ (rd a x = rd b x ∧ a.drop (x + 1).toNat = b.drop (x + 1).toNat) := by
  rw [drop_rd a x h0 h1, drop_rd b x h0 (by omega), List.cons.injEq]
theorem same_spec_rounds (a b : List Int) (hl : a.length ≤ 1048576) (he : a.length = b.length) : ∀ (d k : Nat) (x : Int), 0 ≤ x → x + d = a.length → d < k → spec_l01Same.l0 k a b x = some (decide (a.drop x.toNat = b.drop x.toNat)) := by
  intro d
  induction d with
  | zero =>
    intro k x h0 h1 hk
    obtain ⟨k, rfl⟩ : ∃ m, k = m + 1 := ⟨k - 1, by omega⟩
    simp only [spec_l01Same.l0]
    rw [if_neg (by omega), List.drop_eq_nil_of_le (by omega), List.drop_eq_nil_of_le (by omega)]
    rfl
  | succ d ih =>
    intro k x h0 h1 hk
    obtain ⟨k, rfl⟩ : ∃ m, k = m + 1 := ⟨k - 1, by omega⟩
    simp only [spec_l01Same.l0]
    rw [if_pos (by omega), if_pos h0, if_pos (by omega)]
    have hi := drop_eq_iff a b x h0 (by omega) he
    by_cases c : rd a x = rd b x
    · rw [if_pos c, wr (by omega), ih k (x + 1) (by omega) (by omega) (by omega)]
      congr 1
      exact decide_eq_decide.mpr ⟨fun h => hi.mpr ⟨c, h⟩, fun h => (hi.mp h).2⟩
    · rw [if_neg c, decide_eq_false (fun h => c (hi.mp h).1)]
theorem same_spec (k : Nat) (a b : List Int) (hl : a.length ≤ 1048576) (hk : a.length < k) : spec_l01Same.f k a b = some (decide (a = b)) := by
  unfold spec_l01Same.f
  by_cases he : (a.length : Int) = b.length
  · rw [if_pos he, same_spec_rounds a b hl (by omega) a.length k 0 (by omega) (by omega) hk]
    rfl
  · rw [if_neg he, decide_eq_false (fun h => he (by rw [h]))]
theorem same_impl_rounds (a b : List Int) (hl : a.length ≤ 1048576) (he : a.length = b.length) : ∀ (d k : Nat) (x : Int), 0 ≤ x → x + d = a.length → d < k → impl_Stack_uint8_95.l0 k a b (a.length : Int) x = some (decide (a.drop x.toNat = b.drop x.toNat)) := by
  intro d
  induction d with
  | zero =>
    intro k x h0 h1 hk
    obtain ⟨k, rfl⟩ : ∃ m, k = m + 1 := ⟨k - 1, by omega⟩
    simp only [impl_Stack_uint8_95.l0]
    rw [if_neg (by omega), List.drop_eq_nil_of_le (by omega), List.drop_eq_nil_of_le (by omega)]
    rfl
  | succ d ih =>
    intro k x h0 h1 hk
    obtain ⟨k, rfl⟩ : ∃ m, k = m + 1 := ⟨k - 1, by omega⟩
    simp only [impl_Stack_uint8_95.l0]
    rw [if_pos (by omega), if_pos h0, if_pos (by omega), if_pos (by omega)]
    have hi := drop_eq_iff a b x h0 (by omega) he
    by_cases c : rd a x = rd b x
    · rw [if_pos c, wr (by omega), ih k (x + 1) (by omega) (by omega) (by omega)]
      congr 1
      exact decide_eq_decide.mpr ⟨fun h => hi.mpr ⟨c, h⟩, fun h => (hi.mp h).2⟩
    · rw [if_neg c, decide_eq_false (fun h => c (hi.mp h).1)]
theorem same_impl (k : Nat) (a b : List Int) (hl : a.length ≤ 1048576) (hk : a.length < k) : impl_Stack_uint8_95.f k a b = some (decide (a = b)) := by
  unfold impl_Stack_uint8_95.f
  by_cases he : (a.length : Int) = b.length
  · rw [if_pos he, same_impl_rounds a b hl (by omega) a.length k 0 (by omega) (by omega) hk]
    rfl
  · rw [if_neg he, decide_eq_false (fun h => he (by rw [h]))]
end Go.Proofs.Ytcapjgjjaolofaa.Core
