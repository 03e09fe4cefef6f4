/- Lists of bytes: marked, and found so. -/
import Derived.Test.YtdgillfbdlmloaaGreatDoorPx6
import Derived.Test.YtdgillfbdlmloaaGreatDoorStackE
import Derived.Test.YtdgillfbdlmloaaGreatDoorPx7
import Derived.Test.YtdgillfbdlmloaaGreatDoorMotL
namespace Go.Proofs.YtdgillfbdlmloaaGreatDoor.Core
open Go.RowKit Go.Proofs.YtdgillfbdlmloaaGreatDoor.P Go.Proofs.YtdgillfbdlmloaaGreatDoorW.PrintWords Go.Proofs.YtdgillfbdlmloaaGreatDoorW.PrintMore
theorem rdS_set_other (l : List Int) (i j v : Int) (h0 : 0 ≤ i) (h1 : 0 ≤ j) (hn : i ≠ j) : rd (l.set i.toNat v) j = rd l j := by
  unfold rd
  rw [List.getD_eq_getElem?_getD, List.getD_eq_getElem?_getD, List.getElem?_set_ne (by omega)]
theorem rdS_set_self (l : List Int) (i v : Int) (h0 : 0 ≤ i) (h1 : i < (l.length : Int)) : rd (l.set i.toNat v) i = v := by
  unfold rd
  rw [List.getD_eq_getElem?_getD, List.getElem?_set_self (by omega)]
  rfl
/-- Marked from x on: what stands before stays. -/
theorem markS_rounds : ∀ (d k : Nat) (l : List Int) (x : Int), l.length ≤ 4000000000 → 0 ≤ x → x + d = l.length → d < k →
    ∃ l', laws_markStack.l0 k l (x + 1) x = some ((l.length : Int) + 1, l') ∧ l'.length = l.length ∧ (∀ j, 0 ≤ j → j < x → rd l' j = rd l j) ∧ (∀ j, x ≤ j → j < (l.length : Int) → rd l' j = (j + 1) % 256) := by
  intro d
  induction d with
  | zero =>
    intro k l x hl h0 h1 hk
    obtain ⟨k, rfl⟩ : ∃ m, k = m + 1 := ⟨k - 1, by omega⟩
    simp only [laws_markStack.l0]
    rw [if_neg (by omega)]
    exact ⟨l, by rw [show x = (l.length : Int) by omega], rfl, fun _ _ _ => rfl, fun j _ _ => by omega⟩
  | succ d ih =>
    intro k l x hl h0 h1 hk
    obtain ⟨k, rfl⟩ : ∃ m, k = m + 1 := ⟨k - 1, by omega⟩
    simp only [laws_markStack.l0]
    rw [if_pos (by omega), if_pos h0, wr (by omega), wr (by omega)]
    obtain ⟨l', e, e2, e3, e4⟩ := ih k (l.set x.toNat ((x + 1) % 256)) (x + 1) (by rw [List.length_set]; omega) (by omega) (by rw [List.length_set]; omega) (by omega)
    rw [List.length_set] at e e2 e4
    refine ⟨l', e, e2, fun j a b => ?_, fun j a b => ?_⟩
    · rw [e3 j a (by omega), rdS_set_other l x j _ h0 a (by omega)]
    · by_cases c : j = x
      · subst c
        rw [e3 j (by omega) (by omega), rdS_set_self l j _ h0 b]
      · exact e4 j (by omega) b
theorem heldS_rounds (l : List Int) (hl : l.length ≤ 4000000000) (hm : ∀ j, 0 ≤ j → j < (l.length : Int) → rd l j = (j + 1) % 256) : ∀ (d k : Nat) (x : Int), 0 ≤ x → x + d = l.length → d < k → laws_heldStack.l0 k l (x + 1) x = some ((l.length : Int) + 1) := by
  intro d
  induction d with
  | zero =>
    intro k x h0 h1 hk
    obtain ⟨k, rfl⟩ : ∃ m, k = m + 1 := ⟨k - 1, by omega⟩
    simp only [laws_heldStack.l0]
    rw [if_neg (by omega), show x = (l.length : Int) by omega]
  | succ d ih =>
    intro k x h0 h1 hk
    obtain ⟨k, rfl⟩ : ∃ m, k = m + 1 := ⟨k - 1, by omega⟩
    simp only [laws_heldStack.l0]
    rw [if_pos (by omega), if_pos h0, if_pos (hm x h0 (by omega)), wr (by omega), wr (by omega)]
    exact ih k (x + 1) (by omega) (by omega) (by omega)
/-- Marked once, a list is held for good. -/
theorem markS (k : Nat) (l : List Int) (hl : l.length ≤ 4000000000) (hk : l.length < k) : ∃ l', laws_markStack.f k l 1 = some ((l.length : Int) + 1, l') ∧ ∀ k', l.length < k' → laws_heldStack.f k' l' 1 = some ((l.length : Int) + 1) := by
  unfold laws_markStack.f laws_heldStack.f
  obtain ⟨l', e, e2, _, e4⟩ := markS_rounds l.length k l 0 hl (by omega) (by omega) hk
  refine ⟨l', e, fun k' hk' => ?_⟩
  have := heldS_rounds l' (by omega) (by rw [e2]; exact fun j a b => e4 j a b) l.length k' 0 (by omega) (by omega) hk'
  rw [e2] at this
  exact this
end Go.Proofs.YtdgillfbdlmloaaGreatDoor.Core
/- Motions: marked, and found so. -/
namespace Go.Proofs.YtdgillfbdlmloaaGreatDoor.Core
open Go.RowKit Go.Proofs.YtdgillfbdlmloaaGreatDoor.P Go.Proofs.YtdgillfbdlmloaaGreatDoorW.PrintWords Go.Proofs.YtdgillfbdlmloaaGreatDoorW.PrintMore
theorem rdJ_set_other (l : List SJ) (i j : Int) (v : SJ) (h0 : 0 ≤ i) (h1 : 0 ≤ j) (hn : i ≠ j) : rd_T39 (l.set i.toNat v) j = rd_T39 l j := by
  unfold rd_T39
  rw [List.getD_eq_getElem?_getD, List.getD_eq_getElem?_getD, List.getElem?_set_ne (by omega)]
theorem rdJ_set_self (l : List SJ) (i : Int) (v : SJ) (h0 : 0 ≤ i) (h1 : i < (l.length : Int)) : rd_T39 (l.set i.toNat v) i = v := by
  unfold rd_T39
  rw [List.getD_eq_getElem?_getD, List.getElem?_set_self (by omega)]
  rfl
def mkJ (q j : Int) : SJ := ⟨IntKind.i8.wrap (q + 2 * j), IntKind.i16.wrap (q + 2 * j + 1)⟩
/-- Marked from x on: what stands before stays. -/
theorem markJ_rounds (q : Int) (hq : 0 ≤ q ∧ q ≤ 4000000000) : ∀ (d k : Nat) (l : List SJ) (x : Int), l.length ≤ 4000000000 → 0 ≤ x → x + d = l.length → d < k →
    ∃ l', laws_markJointS.l0 k l (q + 2 * x) x = some (q + 2 * (l.length : Int), l') ∧ l'.length = l.length ∧ (∀ j, 0 ≤ j → j < x → rd_T39 l' j = rd_T39 l j) ∧ (∀ j, x ≤ j → j < (l.length : Int) → rd_T39 l' j = mkJ q j) := by
  intro d
  induction d with
  | zero =>
    intro k l x hl h0 h1 hk
    obtain ⟨k, rfl⟩ : ∃ m, k = m + 1 := ⟨k - 1, by omega⟩
    simp only [laws_markJointS.l0]
    rw [if_neg (by omega)]
    exact ⟨l, by rw [show x = (l.length : Int) by omega], rfl, fun _ _ _ => rfl, fun j _ _ => by omega⟩
  | succ d ih =>
    intro k l x hl h0 h1 hk
    obtain ⟨k, rfl⟩ : ∃ m, k = m + 1 := ⟨k - 1, by omega⟩
    simp only [laws_markJointS.l0]
    rw [if_pos (by omega), if_pos h0, Option.bind_some, rdJ_set_self l x _ h0 (by omega), List.set_set, wr (show -9223372036854775808 ≤ q + 2 * x + 1 ∧ q + 2 * x + 1 ≤ 9223372036854775807 by omega), wr (show -9223372036854775808 ≤ q + 2 * x + 1 + 1 ∧ q + 2 * x + 1 + 1 ≤ 9223372036854775807 by omega), wr (show -9223372036854775808 ≤ x + 1 ∧ x + 1 ≤ 9223372036854775807 by omega)]
    obtain ⟨l', e, e2, e3, e4⟩ := ih k (l.set x.toNat (mkJ q x)) (x + 1) (by rw [List.length_set]; omega) (by omega) (by rw [List.length_set]; omega) (by omega)
    rw [List.length_set] at e e2 e4
    rw [show q + 2 * (x + 1) = q + 2 * x + 1 + 1 by omega] at e
    refine ⟨l', e, e2, fun j a b => ?_, fun j a b => ?_⟩
    · rw [e3 j a (by omega), rdJ_set_other l x j _ h0 a (by omega)]
    · by_cases c : j = x
      · subst c
        rw [e3 j (by omega) (by omega), rdJ_set_self l j _ h0 b]
      · exact e4 j (by omega) b
theorem heldJ_rounds (q : Int) (hq : 0 ≤ q ∧ q ≤ 4000000000) (l : List SJ) (hl : l.length ≤ 4000000000) (hm : ∀ j, 0 ≤ j → j < (l.length : Int) → rd_T39 l j = mkJ q j) : ∀ (d k : Nat) (x : Int), 0 ≤ x → x + d = l.length → d < k → laws_heldJointS.l0 k l (q + 2 * x) x = some (q + 2 * (l.length : Int)) := by
  intro d
  induction d with
  | zero =>
    intro k x h0 h1 hk
    obtain ⟨k, rfl⟩ : ∃ m, k = m + 1 := ⟨k - 1, by omega⟩
    simp only [laws_heldJointS.l0]
    rw [if_neg (by omega), show x = (l.length : Int) by omega]
  | succ d ih =>
    intro k x h0 h1 hk
    obtain ⟨k, rfl⟩ : ∃ m, k = m + 1 := ⟨k - 1, by omega⟩
    simp only [laws_heldJointS.l0]
    rw [if_pos (by omega), if_pos h0, hm x h0 (by omega), wr (show -9223372036854775808 ≤ q + 2 * x + 1 ∧ q + 2 * x + 1 ≤ 9223372036854775807 by omega), wr (show -9223372036854775808 ≤ q + 2 * x + 1 + 1 ∧ q + 2 * x + 1 + 1 ≤ 9223372036854775807 by omega), wr (show -9223372036854775808 ≤ x + 1 ∧ x + 1 ≤ 9223372036854775807 by omega)]
    have := ih k (x + 1) (by omega) (by omega) (by omega)
    rw [show q + 2 * (x + 1) = q + 2 * x + 1 + 1 by omega] at this
    simp only [mkJ, if_true]
    exact this
/-- Marked once, joints are held for good. -/
theorem markJ (k : Nat) (q : Int) (hq : 0 ≤ q ∧ q ≤ 4000000000) (l : List SJ) (hl : l.length ≤ 4000000000) (hk : l.length < k) : ∃ l', laws_markJointS.f k l q = some (q + 2 * (l.length : Int), l') ∧ ∀ k', l.length < k' → laws_heldJointS.f k' l' q = some (q + 2 * (l.length : Int)) := by
  unfold laws_markJointS.f laws_heldJointS.f
  obtain ⟨l', e, e2, _, e4⟩ := markJ_rounds q hq l.length k l 0 hl (by omega) (by omega) hk
  rw [show q + 2 * (0 : Int) = q by omega] at e
  refine ⟨l', e, fun k' hk' => ?_⟩
  have := heldJ_rounds q hq l' (by omega) (by rw [e2]; exact fun j a b => e4 j a b) l.length k' 0 (by omega) (by omega) hk'
  rw [e2, show q + 2 * (0 : Int) = q by omega] at this
  exact this
/-- Marked once, a motion is held for good. -/
theorem markM (k : Nat) (l : List Int) (js : List SJ) (hl : l.length ≤ 8) (hj : js.length ≤ 8) (hk : 10 < k) : ∃ l' js' n, laws_markMotion.f k l js 1 = some (n, l', js') ∧ 0 ≤ n ∧ ∀ k', 10 < k' → laws_heldMotion.f k' l' js' 1 = some n := by
  obtain ⟨l', m1, m2⟩ := markS k l (by omega) (by omega)
  obtain ⟨js', n1, n2⟩ := markJ k ((l.length : Int) + 1) (by omega) js (by omega) (by omega)
  refine ⟨l', js', (l.length : Int) + 1 + 2 * (js.length : Int), ?_, by omega, fun k' hk' => ?_⟩
  · unfold laws_markMotion.f
    rw [m1]
    simp only [Option.bind_some]
    rw [n1]
    rfl
  · unfold laws_heldMotion.f
    rw [m2 k' (by omega)]
    simp only [Option.bind_some]
    rw [if_neg (by omega), n2 k' (by omega)]
    simp only [Option.bind_some]
    rw [if_neg (by omega)]
end Go.Proofs.YtdgillfbdlmloaaGreatDoor.Core
