/- Lists of whole numbers: their room, a copy, two held against each other. -/
import Derived.Test.YtmjfpigkobeahaaPx23
import Derived.Test.YtmjfpigkobeahaaPx6
import Derived.Test.YtmjfpigkobeahaaPx24
import Derived.Test.YtmjfpigkobeahaaMarks
namespace Go.Proofs.Ytmjfpigkobeahaa.Core
open Go.RowKit Go.Proofs.Ytmjfpigkobeahaa.P Go.Proofs.YtmjfpigkobeahaaW.PrintWords Go.Proofs.YtmjfpigkobeahaaW.PrintMore
theorem szI_eq (l : List Int) (a : Int) (ha : 0 ≤ a ∧ a ≤ 1048576) (hm0 : l.length ≤ maxLen) : laws_szInt64S.f l a = some (if a < l.length then -1 else a - l.length) := by
  have hm : l.length ≤ 9223372036854775807 := hm0
  unfold laws_szInt64S.f
  rw [wrM (by omega)]
  by_cases h : a < l.length
  · rw [if_pos (by omega), if_pos h]
  · rw [if_neg (by omega), if_neg h]
theorem drop_rdI (l : List Int) (x : Int) (h0 : 0 ≤ x) (h1 : x < (l.length : Int)) : l.drop x.toNat = rd l x :: l.drop (x + 1).toNat := by
  have e : (x + 1).toNat = x.toNat + 1 := by omega
  rw [e, List.drop_eq_getElem_cons (show x.toNat < l.length by omega)]
  simp [rd, List.getD, List.getElem?_eq_getElem (show x.toNat < l.length by omega)]
theorem take_setI (o m : List Int) (n : Nat) (v : Int) (hn : n < o.length) (ht : o.take n = m.take n) (hv : m[n]? = some v) : (o.set n v).take (n + 1) = m.take (n + 1) := by
  rw [List.take_add_one, List.take_add_one, List.take_set_of_le (Nat.le_refl n), ht, hv, List.getElem?_set_self hn]
theorem rdI_at (l : List Int) (x : Int) (h0 : 0 ≤ x) (h1 : x < (l.length : Int)) : l[x.toNat]? = some (rd l x) := by
  simp [rd, List.getD, List.getElem?_eq_getElem (show x.toNat < l.length by omega)]
theorem toI_rounds (l : List Int) (hl : l.length ≤ 1048576) : ∀ (d k : Nat) (o : List Int) (x : Int), 0 ≤ x → x + d = l.length → o.length = l.length → o.take x.toNat = l.take x.toNat → d < k → laws_toInt64S.l0 k l o x = some l := by
  intro d
  induction d with
  | zero =>
    intro k o x h0 h1 ho ht hk
    obtain ⟨k, rfl⟩ : ∃ m, k = m + 1 := ⟨k - 1, by omega⟩
    simp only [laws_toInt64S.l0]
    rw [if_neg (by omega)]
    rw [List.take_of_length_le (by omega), List.take_of_length_le (by omega)] at ht
    rw [ht]
  | succ d ih =>
    intro k o x h0 h1 ho ht hk
    obtain ⟨k, rfl⟩ : ∃ m, k = m + 1 := ⟨k - 1, by omega⟩
    simp only [laws_toInt64S.l0]
    rw [if_pos (by omega), if_pos h0, if_pos (by omega), wrM (by omega)]
    refine ih k _ (x + 1) (by omega) (by omega) (by rw [List.length_set, ho]) ?_ (by omega)
    rw [show (x + 1).toNat = x.toNat + 1 by omega]
    exact take_setI o l x.toNat _ (by omega) ht (rdI_at l x h0 (by omega))
theorem toI_eq (k : Nat) (l : List Int) (hl : l.length ≤ 1048576) (hk : l.length < k) : laws_toInt64S.f k l = some l := by
  unfold laws_toInt64S.f
  rw [if_pos (by omega), if_pos (by omega)]
  exact toI_rounds l hl l.length k _ 0 (by omega) (by omega) (by simp) rfl hk
theorem sameI_rounds (a b : List Int) (hl : a.length ≤ 1048576) (he : a.length = b.length) : ∀ (d k : Nat) (x : Int), 0 ≤ x → x + d = a.length → d < k →
    spec_l00Same.l0 k a b x = some (decide (a.drop x.toNat = b.drop x.toNat)) ∧ slices_Equal_int64_int64.l0 k a b (a.length : Int) x = some (decide (a.drop x.toNat = b.drop x.toNat)) := by
  intro d
  induction d with
  | zero =>
    intro k x h0 h1 hk
    obtain ⟨k, rfl⟩ : ∃ m, k = m + 1 := ⟨k - 1, by omega⟩
    simp only [spec_l00Same.l0, slices_Equal_int64_int64.l0]
    rw [if_neg (by omega), if_neg (by omega), List.drop_eq_nil_of_le (by omega), List.drop_eq_nil_of_le (by omega)]
    exact ⟨rfl, rfl⟩
  | succ d ih =>
    intro k x h0 h1 hk
    obtain ⟨k, rfl⟩ : ∃ m, k = m + 1 := ⟨k - 1, by omega⟩
    have p1 : x < (a.length : Int) := by omega
    have p2 : x < (b.length : Int) := by omega
    have hi : (a.drop x.toNat = b.drop x.toNat) ↔ (rd a x = rd b x ∧ a.drop (x + 1).toNat = b.drop (x + 1).toNat) := by
      rw [drop_rdI a x h0 p1, drop_rdI b x h0 p2, List.cons.injEq]
    simp only [spec_l00Same.l0, slices_Equal_int64_int64.l0, if_pos p1, if_pos p2, if_pos h0]
    by_cases c : rd a x = rd b x
    · rw [if_pos c, if_pos c, wrM (by omega), (ih k (x + 1) (by omega) (by omega) (by omega)).1, (ih k (x + 1) (by omega) (by omega) (by omega)).2]
      have e : decide (a.drop (x + 1).toNat = b.drop (x + 1).toNat) = decide (a.drop x.toNat = b.drop x.toNat) := decide_eq_decide.mpr ⟨fun h => hi.mpr ⟨c, h⟩, fun h => (hi.mp h).2⟩
      rw [e]
      exact ⟨rfl, rfl⟩
    · rw [if_neg c, if_neg c, decide_eq_false (fun h => c (hi.mp h).1)]
      exact ⟨rfl, rfl⟩
theorem sameI (k : Nat) (a b : List Int) (hl : a.length ≤ 1048576) (hk : a.length < k) : spec_l00Same.f k a b = some (decide (a = b)) ∧ slices_Equal_int64_int64.f k a b = some (decide (a = b)) := by
  unfold spec_l00Same.f slices_Equal_int64_int64.f
  by_cases he : (a.length : Int) = b.length
  · rw [if_pos he, if_pos he]
    exact sameI_rounds a b hl (by omega) a.length k 0 (by omega) (by omega) hk
  · rw [if_neg he, if_neg he, decide_eq_false (fun h => he (by rw [h]))]
    exact ⟨rfl, rfl⟩
end Go.Proofs.Ytmjfpigkobeahaa.Core
