/- Trains of pairs: held against themselves, marked, and found so. -/
import Derived.Test.YtmjfpigkobeahaaPx10
import Derived.Test.YtmjfpigkobeahaaPx11
import Derived.IntWalk
namespace Go.Proofs.Ytmjfpigkobeahaa.Core
open Go.RowKit Go.Proofs.Ytmjfpigkobeahaa.P Go.Proofs.YtmjfpigkobeahaaW.PrintWords Go.Proofs.YtmjfpigkobeahaaW.PrintMore
theorem wrQ {n : Int} (h : -9223372036854775808 ≤ n ∧ n ≤ 9223372036854775807) : wrap64 n = n := Go.IntWalk.wrap64_in n h
theorem eqT_rounds (l : List S79) (hl : l.length ≤ 1048576) : ∀ (d k : Nat) (x : Int), 0 ≤ x → x + d = l.length → d < k → laws_eqTrain.l0 k l l x = some true := by
  intro d
  induction d with
  | zero =>
    intro k x h0 h1 hk
    obtain ⟨k, rfl⟩ : ∃ m, k = m + 1 := ⟨k - 1, by omega⟩
    simp only [laws_eqTrain.l0]
    rw [if_neg (by omega)]
  | succ d ih =>
    intro k x h0 h1 hk
    obtain ⟨k, rfl⟩ : ∃ m, k = m + 1 := ⟨k - 1, by omega⟩
    simp only [laws_eqTrain.l0, laws_eqPair.f, if_true, Option.bind_some]
    rw [if_pos (by omega), if_pos h0, if_pos (by omega), wrQ (by omega)]
    exact ih k (x + 1) (by omega) (by omega) (by omega)
theorem eqT_self (k : Nat) (l : List S79) (hl : l.length ≤ 1048576) (hk : l.length < k) : laws_eqTrain.f k l l = some true := by
  unfold laws_eqTrain.f
  rw [if_pos rfl]
  exact eqT_rounds l hl l.length k 0 (by omega) (by omega) hk
theorem rdT_set_other (l : List S79) (i j : Int) (v : S79) (h0 : 0 ≤ i) (h1 : 0 ≤ j) (hn : i ≠ j) : rd_T79 (l.set i.toNat v) j = rd_T79 l j := by
  unfold rd_T79
  rw [List.getD_eq_getElem?_getD, List.getD_eq_getElem?_getD, List.getElem?_set_ne (by omega)]
theorem rdT_set_self (l : List S79) (i : Int) (v : S79) (h0 : 0 ≤ i) (h1 : i < (l.length : Int)) : rd_T79 (l.set i.toNat v) i = v := by
  unfold rd_T79
  rw [List.getD_eq_getElem?_getD, List.getElem?_set_self (by omega)]
  rfl
/-- The mark of the j-th pair. -/
def mkT (j : Int) : S79 := ⟨IntKind.i16.wrap (2 * j + 1), IntKind.i16.wrap (2 * j + 2)⟩
theorem markT_rounds : ∀ (d k : Nat) (l : List S79) (x : Int), l.length ≤ 1048576 → 0 ≤ x → x + d = l.length → d < k →
    ∃ l', laws_markTrain.l0 k l (2 * x + 1) x = some (2 * (l.length : Int) + 1, l') ∧ l'.length = l.length ∧ (∀ j, 0 ≤ j → j < x → rd_T79 l' j = rd_T79 l j) ∧ (∀ j, x ≤ j → j < (l.length : Int) → rd_T79 l' j = mkT j) := by
  intro d
  induction d with
  | zero =>
    intro k l x hl h0 h1 hk
    obtain ⟨k, rfl⟩ : ∃ m, k = m + 1 := ⟨k - 1, by omega⟩
    simp only [laws_markTrain.l0]
    rw [if_neg (by omega)]
    exact ⟨l, by rw [show x = (l.length : Int) by omega], rfl, fun _ _ _ => rfl, fun j _ _ => by omega⟩
  | succ d ih =>
    intro k l x hl h0 h1 hk
    obtain ⟨k, rfl⟩ : ∃ m, k = m + 1 := ⟨k - 1, by omega⟩
    simp only [laws_markTrain.l0, Option.bind_some]
    rw [if_pos (by omega), if_pos h0, wrQ (n := 2 * x + 1 + 1) (by omega), wrQ (n := 2 * x + 1 + 1 + 1) (by omega), wrQ (n := x + 1) (by omega), rdT_set_self l x _ h0 (by omega), List.set_set]
    obtain ⟨l', e, e2, e3, e4⟩ := ih k (l.set x.toNat (mkT x)) (x + 1) (by rw [List.length_set]; omega) (by omega) (by rw [List.length_set]; omega) (by omega)
    rw [List.length_set] at e e2 e4
    refine ⟨l', ?_, e2, fun j a b => ?_, fun j a b => ?_⟩
    · rw [show 2 * (x + 1) + 1 = 2 * x + 1 + 1 + 1 by omega] at e
      rw [← e]
      unfold mkT
      rw [show 2 * x + 1 + 1 = 2 * x + 2 by omega]
    · rw [e3 j a (by omega), rdT_set_other l x j _ h0 a (by omega)]
    · by_cases c : j = x
      · subst c
        rw [e3 j (by omega) (by omega), rdT_set_self l j _ h0 b]
      · exact e4 j (by omega) b
theorem heldT_rounds (l : List S79) (hl : l.length ≤ 1048576) (hm : ∀ j, 0 ≤ j → j < (l.length : Int) → rd_T79 l j = mkT j) : ∀ (d k : Nat) (x : Int), 0 ≤ x → x + d = l.length → d < k → laws_heldTrain.l0 k l (2 * x + 1) x = some (2 * (l.length : Int) + 1) := by
  intro d
  induction d with
  | zero =>
    intro k x h0 h1 hk
    obtain ⟨k, rfl⟩ : ∃ m, k = m + 1 := ⟨k - 1, by omega⟩
    simp only [laws_heldTrain.l0]
    rw [if_neg (by omega), show x = (l.length : Int) by omega]
  | succ d ih =>
    intro k x h0 h1 hk
    obtain ⟨k, rfl⟩ : ∃ m, k = m + 1 := ⟨k - 1, by omega⟩
    simp only [laws_heldTrain.l0]
    have e1 : 2 * x + 1 + 1 = 2 * x + 2 := by omega
    rw [if_pos (by omega), if_pos h0, hm x h0 (by omega), wrQ (n := 2 * x + 1 + 1) (by omega), e1, if_pos (show (mkT x).f0 = IntKind.i16.wrap (2 * x + 1) from rfl), if_pos (show (mkT x).f1 = IntKind.i16.wrap (2 * x + 2) from rfl), wrQ (n := 2 * x + 2 + 1) (by omega), wrQ (n := x + 1) (by omega), show 2 * x + 2 + 1 = 2 * (x + 1) + 1 by omega]
    exact ih k (x + 1) (by omega) (by omega) (by omega)
/-- Marked once, a train is held for good. -/
theorem markT (k : Nat) (l : List S79) (hl : l.length ≤ 1048576) (hk : l.length < k) : ∃ l', laws_markTrain.f k l 1 = some (2 * (l.length : Int) + 1, l') ∧ ∀ k', l.length < k' → laws_heldTrain.f k' l' 1 = some (2 * (l.length : Int) + 1) := by
  unfold laws_markTrain.f laws_heldTrain.f
  obtain ⟨l', e, e2, _, e4⟩ := markT_rounds l.length k l 0 hl (by omega) (by omega) hk
  refine ⟨l', e, fun k' hk' => ?_⟩
  have := heldT_rounds l' (by omega) (by rw [e2]; exact fun j a b => e4 j a b) l.length k' 0 (by omega) (by omega) hk'
  rw [e2] at this
  exact this
end Go.Proofs.Ytmjfpigkobeahaa.Core
