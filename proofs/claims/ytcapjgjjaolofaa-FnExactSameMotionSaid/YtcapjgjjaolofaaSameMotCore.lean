/- Two motions held against each other: both texts. -/
import Derived.Test.YtcapjgjjaolofaaPx22
import Derived.Test.YtcapjgjjaolofaaSameCore5
import Derived.Test.YtcapjgjjaolofaaMotS
namespace Go.Proofs.Ytcapjgjjaolofaa.Core
open Go.RowKit Go.Proofs.Ytcapjgjjaolofaa.P Go.Proofs.YtcapjgjjaolofaaW.PrintWords Go.Proofs.YtcapjgjjaolofaaW.PrintMore
theorem joints_rounds (a b : List S88) (hl : a.length ≤ 1048576) (he : a.length = b.length) : ∀ (d k : Nat) (x : Int), 0 ≤ x → x + d = a.length → d < k → impl_Joint_64.l0 k a b (a.length : Int) x = some (sameJ (a.drop x.toNat) (b.drop x.toNat)) := by
  intro d
  induction d with
  | zero =>
    intro k x h0 h1 hk
    obtain ⟨k, rfl⟩ : ∃ m, k = m + 1 := ⟨k - 1, by omega⟩
    rw [impl_Joint_64.l0, if_neg (by omega), List.drop_eq_nil_of_le (by omega), List.drop_eq_nil_of_le (by omega)]
    rfl
  | succ d ih =>
    intro k x h0 h1 hk
    obtain ⟨k, rfl⟩ : ∃ m, k = m + 1 := ⟨k - 1, by omega⟩
    rw [impl_Joint_64.l0, if_pos (by omega), if_pos h0, if_pos (by omega), if_pos (by omega), wr (by omega), ih k (x + 1) (by omega) (by omega) (by omega), sameJ_drop a b x h0 (by omega) (by omega)]
    generalize ((rd_T88 a x).f0 == (rd_T88 b x).f0) = p
    generalize ((rd_T88 a x).f1 == (rd_T88 b x).f1) = q
    cases p <;> cases q <;> rfl
theorem joints_impl (k : Nat) (a b : List S88) (hl : a.length ≤ 1048576) (hk : a.length < k) : impl_Joint_64.f k a b = some (sameJ a b) := by
  unfold impl_Joint_64.f
  by_cases he : (a.length : Int) = b.length
  · rw [if_pos he, joints_rounds a b hl (by omega) a.length k 0 (by omega) (by omega) hk]
    rfl
  · rw [if_neg he, sameJ_len a b (by omega)]
theorem sameM_impl (k : Nat) (l : List Int) (a : List S88) (m : List Int) (b : List S88) (hl : l.length ≤ 1048576) (ha : a.length ≤ 1048576) (hk : 1048576 < k) : impl_SameMotion.f k l a m b = some (decide (l = m) && sameJ a b) := by
  unfold impl_SameMotion.f impl_SameStack.f
  rw [same_impl k l m hl (by omega), joints_impl k a b ha (by omega)]
  simp only [Option.bind_some]
  by_cases h : l = m
  · rw [decide_eq_true h, if_pos rfl, Bool.true_and]
  · rw [decide_eq_false h, if_neg (by decide), Bool.false_and]
theorem sameM_spec (k : Nat) (l : List Int) (a : List S88) (m : List Int) (b : List S88) (hl : l.length ≤ 1048576) (hk : 1048576 < k) : spec_SameMotion.f k l a m b = some (decide (l = m) && sameJ a b) := by
  unfold spec_SameMotion.f spec_SameStack.f
  rw [same_spec k l m hl (by omega)]
  rfl
end Go.Proofs.Ytcapjgjjaolofaa.Core
