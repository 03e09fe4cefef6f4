/- Trains: marked, and found so. -/
import Derived.Test.YtdgillfbdlmloaaDoorPx13
import Derived.Test.YtdgillfbdlmloaaDoorPx14
import Derived.Test.YtdgillfbdlmloaaDoorTrainE
import Derived.Test.YtdgillfbdlmloaaDoorTrainT
namespace Go.Proofs.YtdgillfbdlmloaaDoor.Core
open Go.RowKit Go.Proofs.YtdgillfbdlmloaaDoor.P Go.Proofs.YtdgillfbdlmloaaDoorW.PrintWords Go.Proofs.YtdgillfbdlmloaaDoorW.PrintMore
theorem rdT_set_other (l : List SP) (i j : Int) (v : SP) (h0 : 0 ≤ i) (h1 : 0 ≤ j) (hn : i ≠ j) : rd_T57 (l.set i.toNat v) j = rd_T57 l j := by
  unfold rd_T57
  rw [List.getD_eq_getElem?_getD, List.getD_eq_getElem?_getD, List.getElem?_set_ne (by omega)]
theorem rdT_set_self (l : List SP) (i : Int) (v : SP) (h0 : 0 ≤ i) (h1 : i < (l.length : Int)) : rd_T57 (l.set i.toNat v) i = v := by
  unfold rd_T57
  rw [List.getD_eq_getElem?_getD, List.getElem?_set_self (by omega)]
  rfl
def mkT (j : Int) : SP := ⟨IntKind.i16.wrap (2 * j + 1), IntKind.i16.wrap (2 * j + 1 + 1)⟩
/-- Marked from x on: what stands before stays. -/
theorem markT_rounds : ∀ (d k : Nat) (l : List SP) (x : Int), l.length ≤ 4000000000 → 0 ≤ x → x + d = l.length → d < k →
    ∃ l', laws_markTrain.l0 k l (2 * x + 1) x = some (2 * (l.length : Int) + 1, l') ∧ l'.length = l.length ∧ (∀ j, 0 ≤ j → j < x → rd_T57 l' j = rd_T57 l j) ∧ (∀ j, x ≤ j → j < (l.length : Int) → rd_T57 l' j = mkT j) := by
  intro d
  induction d with
  | zero =>
    intro k l x hl h0 h1 hk
    obtain ⟨k, rfl⟩ : ∃ m, k = m + 1 := ⟨k - 1, by omega⟩
    simp only [laws_markTrain.l0]
    rw [if_neg (by omega)]
    exact ⟨l, by rw [show x = (l.length : Int) by omega], rfl, fun _ _ _ => rfl, fun j _ _ => by omega⟩
  | succ d ih =>
    intro k l x hl h0 h1 hk
    obtain ⟨k, rfl⟩ : ∃ m, k = m + 1 := ⟨k - 1, by omega⟩
    simp only [laws_markTrain.l0]
    rw [if_pos (by omega), if_pos h0, Option.bind_some, rdT_set_self l x _ h0 (by omega), List.set_set, wrT (show -9223372036854775808 ≤ 2 * x + 1 + 1 ∧ 2 * x + 1 + 1 ≤ 9223372036854775807 by omega), wrT (show -9223372036854775808 ≤ 2 * x + 1 + 1 + 1 ∧ 2 * x + 1 + 1 + 1 ≤ 9223372036854775807 by omega), wrT (show -9223372036854775808 ≤ x + 1 ∧ x + 1 ≤ 9223372036854775807 by omega)]
    obtain ⟨l', e, e2, e3, e4⟩ := ih k (l.set x.toNat (mkT x)) (x + 1) (by rw [List.length_set]; omega) (by omega) (by rw [List.length_set]; omega) (by omega)
    rw [List.length_set] at e e2 e4
    rw [show 2 * (x + 1) + 1 = 2 * x + 1 + 1 + 1 by omega] at e
    refine ⟨l', e, e2, fun j a b => ?_, fun j a b => ?_⟩
    · rw [e3 j a (by omega), rdT_set_other l x j _ h0 a (by omega)]
    · by_cases c : j = x
      · subst c
        rw [e3 j (by omega) (by omega), rdT_set_self l j _ h0 b]
      · exact e4 j (by omega) b
theorem heldT_rounds (l : List SP) (hl : l.length ≤ 4000000000) (hm : ∀ j, 0 ≤ j → j < (l.length : Int) → rd_T57 l j = mkT j) : ∀ (d k : Nat) (x : Int), 0 ≤ x → x + d = l.length → d < k → laws_heldTrain.l0 k l (2 * x + 1) x = some (2 * (l.length : Int) + 1) := by
  intro d
  induction d with
  | zero =>
    intro k x h0 h1 hk
    obtain ⟨k, rfl⟩ : ∃ m, k = m + 1 := ⟨k - 1, by omega⟩
    simp only [laws_heldTrain.l0]
    rw [if_neg (by omega), show x = (l.length : Int) by omega]
  | succ d ih =>
    intro k x h0 h1 hk
    obtain ⟨k, rfl⟩ : ∃ m, k = m + 1 := ⟨k - 1, by omega⟩
    simp only [laws_heldTrain.l0]
    rw [if_pos (by omega), if_pos h0, hm x h0 (by omega), wrT (show -9223372036854775808 ≤ 2 * x + 1 + 1 ∧ 2 * x + 1 + 1 ≤ 9223372036854775807 by omega), wrT (show -9223372036854775808 ≤ 2 * x + 1 + 1 + 1 ∧ 2 * x + 1 + 1 + 1 ≤ 9223372036854775807 by omega), wrT (show -9223372036854775808 ≤ x + 1 ∧ x + 1 ≤ 9223372036854775807 by omega)]
    have := ih k (x + 1) (by omega) (by omega) (by omega)
    rw [show 2 * (x + 1) + 1 = 2 * x + 1 + 1 + 1 by omega] at this
    simp only [mkT, if_true]
    exact this
/-- Marked once, a train is held for good. -/
theorem markT (k : Nat) (l : List SP) (hl : l.length ≤ 4000000000) (hk : l.length < k) : ∃ l', laws_markTrain.f k l 1 = some (2 * (l.length : Int) + 1, l') ∧ ∀ k', l.length < k' → laws_heldTrain.f k' l' 1 = some (2 * (l.length : Int) + 1) := by
  unfold laws_markTrain.f laws_heldTrain.f
  obtain ⟨l', e, e2, _, e4⟩ := markT_rounds l.length k l 0 hl (by omega) (by omega) hk
  refine ⟨l', e, fun k' hk' => ?_⟩
  have := heldT_rounds l' (by omega) (by rw [e2]; exact fun j a b => e4 j a b) l.length k' 0 (by omega) (by omega) hk'
  rw [e2] at this
  exact this
end Go.Proofs.YtdgillfbdlmloaaDoor.Core
