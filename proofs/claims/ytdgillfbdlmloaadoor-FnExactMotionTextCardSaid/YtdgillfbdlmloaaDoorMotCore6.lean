/- Motions in plain words: copies, motions held against themselves, their room; a motion is right. -/
import Derived.Test.YtdgillfbdlmloaaDoorPx4
import Derived.Test.YtdgillfbdlmloaaDoorPx5
import Derived.Test.YtdgillfbdlmloaaDoorStackCore6
namespace Go.Proofs.YtdgillfbdlmloaaDoor.Core
open Go.RowKit Go.Proofs.YtdgillfbdlmloaaDoor.P Go.Proofs.YtdgillfbdlmloaaDoorW.PrintWords Go.Proofs.YtdgillfbdlmloaaDoorW.PrintMore
/-- Joints of the law's type as the program's. -/
def cvJ (l : List S114) : List S77 := l.map fun j => ⟨j.f0, j.f1⟩
theorem cvJ_len (l : List S114) : (cvJ l).length = l.length := by simp [cvJ]
theorem cvJ_at (l : List S114) (x : Int) (h0 : 0 ≤ x) (h1 : x < (l.length : Int)) : (cvJ l)[x.toNat]? = some ⟨(rd_T114 l x).f0, (rd_T114 l x).f1⟩ := by
  simp [cvJ, rd_T114, List.getD, List.getElem?_eq_getElem (show x.toNat < l.length by omega)]
theorem take_setJ (o m : List S77) (n : Nat) (v : S77) (hn : n < o.length) (ht : o.take n = m.take n) (hv : m[n]? = some v) : (o.set n v).take (n + 1) = m.take (n + 1) := by
  rw [List.take_add_one, List.take_add_one, List.take_set_of_le (Nat.le_refl n), ht, hv, List.getElem?_set_self hn]
theorem toJ_rounds (l : List S114) (hl : l.length ≤ 1048576) : ∀ (d k : Nat) (o : List S77) (x : Int), 0 ≤ x → x + d = l.length → o.length = l.length → o.take x.toNat = (cvJ l).take x.toNat → d < k → laws_toJointS.l0 k l o x = some (cvJ l) := by
  intro d
  induction d with
  | zero =>
    intro k o x h0 h1 ho ht hk
    obtain ⟨k, rfl⟩ : ∃ m, k = m + 1 := ⟨k - 1, by omega⟩
    rw [laws_toJointS.l0, if_neg (by omega)]
    rw [List.take_of_length_le (by omega), List.take_of_length_le (by rw [cvJ_len]; omega)] at ht
    rw [ht]
  | succ d ih =>
    intro k o x h0 h1 ho ht hk
    obtain ⟨k, rfl⟩ : ∃ m, k = m + 1 := ⟨k - 1, by omega⟩
    rw [laws_toJointS.l0, if_pos (by omega), if_pos h0]
    simp only [laws_toJoint.f, Option.bind_some]
    rw [if_pos (by omega), wr (by omega)]
    refine ih k _ (x + 1) (by omega) (by omega) (by rw [List.length_set, ho]) ?_ (by omega)
    rw [show (x + 1).toNat = x.toNat + 1 by omega]
    exact take_setJ o (cvJ l) x.toNat _ (by omega) ht (cvJ_at l x h0 (by omega))
theorem toJ_eq (k : Nat) (l : List S114) (hl : l.length ≤ 1048576) (hk : l.length < k) : laws_toJointS.f k l = some (cvJ l) := by
  unfold laws_toJointS.f
  rw [if_pos (by omega), if_pos (by omega)]
  exact toJ_rounds l hl l.length k _ 0 (by omega) (by omega) (by simp) rfl hk
theorem eqJ_rounds (l : List S77) (hl : l.length ≤ 1048576) : ∀ (d k : Nat) (x : Int), 0 ≤ x → x + d = l.length → d < k → laws_eqJointS.l0 k l l x = some true := by
  intro d
  induction d with
  | zero =>
    intro k x h0 h1 hk
    obtain ⟨k, rfl⟩ : ∃ m, k = m + 1 := ⟨k - 1, by omega⟩
    rw [laws_eqJointS.l0, if_neg (by omega)]
  | succ d ih =>
    intro k x h0 h1 hk
    obtain ⟨k, rfl⟩ : ∃ m, k = m + 1 := ⟨k - 1, by omega⟩
    rw [laws_eqJointS.l0, if_pos (by omega), if_pos h0, if_pos (by omega)]
    simp only [laws_eqJoint.f, if_true, Option.bind_some]
    rw [wr (by omega)]
    exact ih k (x + 1) (by omega) (by omega) (by omega)
theorem eqJ_self (k : Nat) (l : List S77) (hl : l.length ≤ 1048576) (hk : l.length < k) : laws_eqJointS.f k l l = some true := by
  unfold laws_eqJointS.f
  rw [if_pos rfl]
  exact eqJ_rounds l hl l.length k 0 (by omega) (by omega) hk
theorem toM_eq (k : Nat) (l : List Int) (js : List S114) (hl : l.length ≤ 1048576) (hj : js.length ≤ 1048576) (hk : 1048576 < k) : laws_toMotion.f k l js = some (l, cvJ js) := by
  unfold laws_toMotion.f
  rw [toStack_eq k l hl (by omega), toJ_eq k js hj (by omega)]
  rfl
theorem eqM_self (k : Nat) (l : List Int) (js : List S77) (hl : l.length ≤ 1048576) (hj : js.length ≤ 1048576) (hk : 1048576 < k) : laws_eqMotion.f k l js l js = some true := by
  unfold laws_eqMotion.f
  rw [eqStack_self k l hl (by omega), eqJ_self k js hj (by omega)]
  rfl
/-- The room of a motion: there is none left, or both lists are short. -/
theorem sz_room (l : List Int) (js : List S114) (a : Int) (ha : 0 ≤ a ∧ a ≤ 1048576) (hl0 : l.length ≤ maxLen) (hj0 : js.length ≤ maxLen) :
    laws_szMotion.f l js a = some (-1) ∨ ∃ r, laws_szMotion.f l js a = some r ∧ (0 ≤ r ∧ r ≤ 1048576) ∧ l.length ≤ 1048576 ∧ js.length ≤ 1048576 := by
  have h1 : l.length ≤ 9223372036854775807 := hl0
  have h2 : js.length ≤ 9223372036854775807 := hj0
  unfold laws_szMotion.f laws_szStack.f laws_szJointS.f
  rw [wr (n := a - (l.length : Int)) (by omega)]
  by_cases c : a - (l.length : Int) < 0
  · rw [if_pos c]
    exact .inl rfl
  · rw [if_neg c]
    simp only [Option.bind_some, if_neg c]
    rw [wr (n := a - (l.length : Int) - (js.length : Int)) (by omega)]
    by_cases c2 : a - (l.length : Int) - (js.length : Int) < 0
    · rw [if_pos c2]
      exact .inl rfl
    · rw [if_neg c2]
      simp only [Option.bind_some, if_neg c2]
      exact .inr ⟨_, rfl, ⟨by omega, by omega⟩, by omega, by omega⟩
end Go.Proofs.YtdgillfbdlmloaaDoor.Core
