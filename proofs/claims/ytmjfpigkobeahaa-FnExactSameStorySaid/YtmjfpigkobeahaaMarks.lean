/- Lists of whole numbers: held against themselves, marked, and found so. -/
import Derived.Test.YtmjfpigkobeahaaPx3
import Derived.Test.YtmjfpigkobeahaaPx4
import Derived.IntWalk
namespace Go.Proofs.Ytmjfpigkobeahaa.Core
open Go.RowKit Go.Proofs.Ytmjfpigkobeahaa.P Go.Proofs.YtmjfpigkobeahaaW.PrintWords Go.Proofs.YtmjfpigkobeahaaW.PrintMore
theorem wrM {n : Int} (h : -9223372036854775808 ≤ n ∧ n ≤ 9223372036854775807) : wrap64 n = n := Go.IntWalk.wrap64_in n h
theorem rd_set_other (l : List Int) (i j v : Int) (h0 : 0 ≤ i) (h1 : 0 ≤ j) (hn : i ≠ j) : rd (l.set i.toNat v) j = rd l j := by
  unfold rd
  rw [List.getD_eq_getElem?_getD, List.getD_eq_getElem?_getD, List.getElem?_set_ne (by omega)]
theorem rd_set_self (l : List Int) (i v : Int) (h0 : 0 ≤ i) (h1 : i < (l.length : Int)) : rd (l.set i.toNat v) i = v := by
  unfold rd
  rw [List.getD_eq_getElem?_getD, List.getElem?_set_self (by omega)]
  rfl
theorem eqI_rounds (l : List Int) (hl : l.length ≤ 4000000000) : ∀ (d k : Nat) (x : Int), 0 ≤ x → x + d = l.length → d < k → laws_eqInt64S.l0 k l l x = some true := by
  intro d
  induction d with
  | zero =>
    intro k x h0 h1 hk
    obtain ⟨k, rfl⟩ : ∃ m, k = m + 1 := ⟨k - 1, by omega⟩
    simp only [laws_eqInt64S.l0]
    rw [if_neg (by omega)]
  | succ d ih =>
    intro k x h0 h1 hk
    obtain ⟨k, rfl⟩ : ∃ m, k = m + 1 := ⟨k - 1, by omega⟩
    simp only [laws_eqInt64S.l0, if_true]
    rw [if_pos (by omega), if_pos h0, if_pos (by omega), wrM (by omega)]
    exact ih k (x + 1) (by omega) (by omega) (by omega)
theorem eqI_self (k : Nat) (l : List Int) (hl : l.length ≤ 4000000000) (hk : l.length < k) : laws_eqInt64S.f k l l = some true := by
  unfold laws_eqInt64S.f
  rw [if_pos rfl]
  exact eqI_rounds l hl l.length k 0 (by omega) (by omega) hk
/-- Marked from x on: what stands before stays. -/
theorem markI_rounds : ∀ (d k : Nat) (l : List Int) (x : Int), l.length ≤ 4000000000 → 0 ≤ x → x + d = l.length → d < k →
    ∃ l', laws_markInt64S.l0 k l (x + 1) x = some ((l.length : Int) + 1, l') ∧ l'.length = l.length ∧ (∀ j, 0 ≤ j → j < x → rd l' j = rd l j) ∧ (∀ j, x ≤ j → j < (l.length : Int) → rd l' j = j + 1) := by
  intro d
  induction d with
  | zero =>
    intro k l x hl h0 h1 hk
    obtain ⟨k, rfl⟩ : ∃ m, k = m + 1 := ⟨k - 1, by omega⟩
    simp only [laws_markInt64S.l0]
    rw [if_neg (by omega)]
    exact ⟨l, by rw [show x = (l.length : Int) by omega], rfl, fun _ _ _ => rfl, fun j _ _ => by omega⟩
  | succ d ih =>
    intro k l x hl h0 h1 hk
    obtain ⟨k, rfl⟩ : ∃ m, k = m + 1 := ⟨k - 1, by omega⟩
    simp only [laws_markInt64S.l0]
    rw [if_pos (by omega), if_pos h0, wrM (by omega), wrM (by omega)]
    obtain ⟨l', e, e2, e3, e4⟩ := ih k (l.set x.toNat (x + 1)) (x + 1) (by rw [List.length_set]; omega) (by omega) (by rw [List.length_set]; omega) (by omega)
    rw [List.length_set] at e e2 e4
    refine ⟨l', e, e2, fun j a b => ?_, fun j a b => ?_⟩
    · rw [e3 j a (by omega), rd_set_other l x j _ h0 a (by omega)]
    · by_cases c : j = x
      · subst c
        rw [e3 j (by omega) (by omega), rd_set_self l j _ h0 b]
      · exact e4 j (by omega) b
theorem heldI_rounds (l : List Int) (hl : l.length ≤ 4000000000) (hm : ∀ j, 0 ≤ j → j < (l.length : Int) → rd l j = j + 1) : ∀ (d k : Nat) (x : Int), 0 ≤ x → x + d = l.length → d < k → laws_heldInt64S.l0 k l (x + 1) x = some ((l.length : Int) + 1) := by
  intro d
  induction d with
  | zero =>
    intro k x h0 h1 hk
    obtain ⟨k, rfl⟩ : ∃ m, k = m + 1 := ⟨k - 1, by omega⟩
    simp only [laws_heldInt64S.l0]
    rw [if_neg (by omega), show x = (l.length : Int) by omega]
  | succ d ih =>
    intro k x h0 h1 hk
    obtain ⟨k, rfl⟩ : ∃ m, k = m + 1 := ⟨k - 1, by omega⟩
    simp only [laws_heldInt64S.l0]
    rw [if_pos (by omega), if_pos h0, if_pos (hm x h0 (by omega)), wrM (by omega), wrM (by omega)]
    exact ih k (x + 1) (by omega) (by omega) (by omega)
/-- Marked once, a list is held for good. -/
theorem markI (k : Nat) (l : List Int) (hl : l.length ≤ 4000000000) (hk : l.length < k) : ∃ l', laws_markInt64S.f k l 1 = some ((l.length : Int) + 1, l') ∧ ∀ k', l.length < k' → laws_heldInt64S.f k' l' 1 = some ((l.length : Int) + 1) := by
  unfold laws_markInt64S.f laws_heldInt64S.f
  obtain ⟨l', e, e2, _, e4⟩ := markI_rounds l.length k l 0 hl (by omega) (by omega) hk
  refine ⟨l', e, fun k' hk' => ?_⟩
  have := heldI_rounds l' (by omega) (by rw [e2]; exact fun j a b => e4 j a b) l.length k' 0 (by omega) (by omega) hk'
  rw [e2] at this
  exact this
end Go.Proofs.Ytmjfpigkobeahaa.Core
