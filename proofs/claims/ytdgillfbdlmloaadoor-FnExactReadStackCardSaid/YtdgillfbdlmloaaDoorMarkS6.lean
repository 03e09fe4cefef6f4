/- Lists of bytes: marked, and found so. -/
import Derived.Test.YtdgillfbdlmloaaDoorPx12
import Derived.Test.YtdgillfbdlmloaaDoorStackCore6
namespace Go.Proofs.YtdgillfbdlmloaaDoor.Core
open Go.RowKit Go.Proofs.YtdgillfbdlmloaaDoor.P Go.Proofs.YtdgillfbdlmloaaDoorW.PrintWords Go.Proofs.YtdgillfbdlmloaaDoorW.PrintMore
theorem rdS_set_other (l : List Int) (i j v : Int) (h0 : 0 ≤ i) (h1 : 0 ≤ j) (hn : i ≠ j) : rd (l.set i.toNat v) j = rd l j := by
  unfold rd
  rw [List.getD_eq_getElem?_getD, List.getD_eq_getElem?_getD, List.getElem?_set_ne (by omega)]
theorem rdS_set_self (l : List Int) (i v : Int) (h0 : 0 ≤ i) (h1 : i < (l.length : Int)) : rd (l.set i.toNat v) i = v := by
  unfold rd
  rw [List.getD_eq_getElem?_getD, List.getElem?_set_self (by omega)]
  rfl
/-- Marked from x on: what stands before stays. -/
theorem markS_rounds : ∀ (d k : Nat) (l : List Int) (x : Int), l.length ≤ 4000000000 → 0 ≤ x → x + d = l.length → d < k →
    ∃ l', laws_markStack.l0 k l (x + 1) x = some ((l.length : Int) + 1, l') ∧ l'.length = l.length ∧ (∀ j, 0 ≤ j → j < x → rd l' j = rd l j) ∧ (∀ j, x ≤ j → j < (l.length : Int) → rd l' j = (j + 1) % 256) := by
  intro d
  induction d with
  | zero =>
    intro k l x hl h0 h1 hk
    obtain ⟨k, rfl⟩ : ∃ m, k = m + 1 := ⟨k - 1, by omega⟩
    simp only [laws_markStack.l0]
    rw [if_neg (by omega)]
    exact ⟨l, by rw [show x = (l.length : Int) by omega], rfl, fun _ _ _ => rfl, fun j _ _ => by omega⟩
  | succ d ih =>
    intro k l x hl h0 h1 hk
    obtain ⟨k, rfl⟩ : ∃ m, k = m + 1 := ⟨k - 1, by omega⟩
    simp only [laws_markStack.l0]
    rw [if_pos (by omega), if_pos h0, wr (by omega), wr (by omega)]
    obtain ⟨l', e, e2, e3, e4⟩ := ih k (l.set x.toNat ((x + 1) % 256)) (x + 1) (by rw [List.length_set]; omega) (by omega) (by rw [List.length_set]; omega) (by omega)
    rw [List.length_set] at e e2 e4
    refine ⟨l', e, e2, fun j a b => ?_, fun j a b => ?_⟩
    · rw [e3 j a (by omega), rdS_set_other l x j _ h0 a (by omega)]
    · by_cases c : j = x
      · subst c
        rw [e3 j (by omega) (by omega), rdS_set_self l j _ h0 b]
      · exact e4 j (by omega) b
theorem heldS_rounds (l : List Int) (hl : l.length ≤ 4000000000) (hm : ∀ j, 0 ≤ j → j < (l.length : Int) → rd l j = (j + 1) % 256) : ∀ (d k : Nat) (x : Int), 0 ≤ x → x + d = l.length → d < k → laws_heldStack.l0 k l (x + 1) x = some ((l.length : Int) + 1) := by
  intro d
  induction d with
  | zero =>
    intro k x h0 h1 hk
    obtain ⟨k, rfl⟩ : ∃ m, k = m + 1 := ⟨k - 1, by omega⟩
    simp only [laws_heldStack.l0]
    rw [if_neg (by omega), show x = (l.length : Int) by omega]
  | succ d ih =>
    intro k x h0 h1 hk
    obtain ⟨k, rfl⟩ : ∃ m, k = m + 1 := ⟨k - 1, by omega⟩
    simp only [laws_heldStack.l0]
    rw [if_pos (by omega), if_pos h0, if_pos (hm x h0 (by omega)), wr (by omega), wr (by omega)]
    exact ih k (x + 1) (by omega) (by omega) (by omega)
/-- Marked once, a list is held for good. -/
theorem markS (k : Nat) (l : List Int) (hl : l.length ≤ 4000000000) (hk : l.length < k) : ∃ l', laws_markStack.f k l 1 = some ((l.length : Int) + 1, l') ∧ ∀ k', l.length < k' → laws_heldStack.f k' l' 1 = some ((l.length : Int) + 1) := by
  unfold laws_markStack.f laws_heldStack.f
  obtain ⟨l', e, e2, _, e4⟩ := markS_rounds l.length k l 0 hl (by omega) (by omega) hk
  refine ⟨l', e, fun k' hk' => ?_⟩
  have := heldS_rounds l' (by omega) (by rw [e2]; exact fun j a b => e4 j a b) l.length k' 0 (by omega) (by omega) hk'
  rw [e2] at this
  exact this
end Go.Proofs.YtdgillfbdlmloaaDoor.Core
