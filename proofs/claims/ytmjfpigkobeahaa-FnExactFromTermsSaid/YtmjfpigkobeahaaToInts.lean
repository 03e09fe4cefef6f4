/- Lists of whole numbers: a copy, and held against themselves. -/
import Derived.Test.YtmjfpigkobeahaaPx5
import Derived.Test.YtmjfpigkobeahaaPx3
import Derived.IntWalk
namespace Go.Proofs.Ytmjfpigkobeahaa.Core
open Go.RowKit Go.Proofs.Ytmjfpigkobeahaa.P Go.Proofs.YtmjfpigkobeahaaW.PrintWords Go.Proofs.YtmjfpigkobeahaaW.PrintMore
theorem wrM {n : Int} (h : -9223372036854775808 ≤ n ∧ n ≤ 9223372036854775807) : wrap64 n = n := Go.IntWalk.wrap64_in n h
theorem eqI_rounds (l : List Int) (hl : l.length ≤ 4000000000) : ∀ (d k : Nat) (x : Int), 0 ≤ x → x + d = l.length → d < k → laws_eqInt64S.l0 k l l x = some true := by
  intro d
  induction d with
  | zero =>
    intro k x h0 h1 hk
    obtain ⟨k, rfl⟩ : ∃ m, k = m + 1 := ⟨k - 1, by omega⟩
    simp only [laws_eqInt64S.l0]
    rw [if_neg (by omega)]
  | succ d ih =>
    intro k x h0 h1 hk
    obtain ⟨k, rfl⟩ : ∃ m, k = m + 1 := ⟨k - 1, by omega⟩
    simp only [laws_eqInt64S.l0, if_true]
    rw [if_pos (by omega), if_pos h0, if_pos (by omega), wrM (by omega)]
    exact ih k (x + 1) (by omega) (by omega) (by omega)
theorem eqI_self (k : Nat) (l : List Int) (hl : l.length ≤ 4000000000) (hk : l.length < k) : laws_eqInt64S.f k l l = some true := by
  unfold laws_eqInt64S.f
  rw [if_pos rfl]
  exact eqI_rounds l hl l.length k 0 (by omega) (by omega) hk
theorem drop_rdI (l : List Int) (x : Int) (h0 : 0 ≤ x) (h1 : x < (l.length : Int)) : l.drop x.toNat = rd l x :: l.drop (x + 1).toNat := by
  have e : (x + 1).toNat = x.toNat + 1 := by omega
  rw [e, List.drop_eq_getElem_cons (show x.toNat < l.length by omega)]
  simp [rd, List.getD, List.getElem?_eq_getElem (show x.toNat < l.length by omega)]
theorem take_setI (o m : List Int) (n : Nat) (v : Int) (hn : n < o.length) (ht : o.take n = m.take n) (hv : m[n]? = some v) : (o.set n v).take (n + 1) = m.take (n + 1) := by
  rw [List.take_add_one, List.take_add_one, List.take_set_of_le (Nat.le_refl n), ht, hv, List.getElem?_set_self hn]
theorem rdI_at (l : List Int) (x : Int) (h0 : 0 ≤ x) (h1 : x < (l.length : Int)) : l[x.toNat]? = some (rd l x) := by
  simp [rd, List.getD, List.getElem?_eq_getElem (show x.toNat < l.length by omega)]
theorem toI_rounds (l : List Int) (hl : l.length ≤ 1048576) : ∀ (d k : Nat) (o : List Int) (x : Int), 0 ≤ x → x + d = l.length → o.length = l.length → o.take x.toNat = l.take x.toNat → d < k → laws_toInt64S.l0 k l o x = some l := by
  intro d
  induction d with
  | zero =>
    intro k o x h0 h1 ho ht hk
    obtain ⟨k, rfl⟩ : ∃ m, k = m + 1 := ⟨k - 1, by omega⟩
    simp only [laws_toInt64S.l0]
    rw [if_neg (by omega)]
    rw [List.take_of_length_le (by omega), List.take_of_length_le (by omega)] at ht
    rw [ht]
  | succ d ih =>
    intro k o x h0 h1 ho ht hk
    obtain ⟨k, rfl⟩ : ∃ m, k = m + 1 := ⟨k - 1, by omega⟩
    simp only [laws_toInt64S.l0]
    rw [if_pos (by omega), if_pos h0, if_pos (by omega), wrM (by omega)]
    refine ih k _ (x + 1) (by omega) (by omega) (by rw [List.length_set, ho]) ?_ (by omega)
    rw [show (x + 1).toNat = x.toNat + 1 by omega]
    exact take_setI o l x.toNat _ (by omega) ht (rdI_at l x h0 (by omega))
theorem toI_eq (k : Nat) (l : List Int) (hl : l.length ≤ 1048576) (hk : l.length < k) : laws_toInt64S.f k l = some l := by
  unfold laws_toInt64S.f
  rw [if_pos (by omega), if_pos (by omega)]
  exact toI_rounds l hl l.length k _ 0 (by omega) (by omega) (by simp) rfl hk
end Go.Proofs.Ytmjfpigkobeahaa.Core
