/- Motions in plain words: motions held against themselves. -/
import Derived.Test.YtdgillfbdlmloaaGreatDoorPx5
import Derived.Test.YtdgillfbdlmloaaGreatDoorStackE
namespace Go.Proofs.YtdgillfbdlmloaaGreatDoor.Core
open Go.RowKit Go.Proofs.YtdgillfbdlmloaaGreatDoor.P Go.Proofs.YtdgillfbdlmloaaGreatDoorW.PrintWords Go.Proofs.YtdgillfbdlmloaaGreatDoorW.PrintMore
theorem eqJ_rounds (l : List S39) (hl : l.length ≤ 1048576) : ∀ (d k : Nat) (x : Int), 0 ≤ x → x + d = l.length → d < k → laws_eqJointS.l0 k l l x = some true := by
  intro d
  induction d with
  | zero =>
    intro k x h0 h1 hk
    obtain ⟨k, rfl⟩ : ∃ m, k = m + 1 := ⟨k - 1, by omega⟩
    rw [laws_eqJointS.l0, if_neg (by omega)]
  | succ d ih =>
    intro k x h0 h1 hk
    obtain ⟨k, rfl⟩ : ∃ m, k = m + 1 := ⟨k - 1, by omega⟩
    rw [laws_eqJointS.l0, if_pos (by omega), if_pos h0, if_pos (by omega)]
    simp only [laws_eqJoint.f, if_true, Option.bind_some]
    rw [wr (by omega)]
    exact ih k (x + 1) (by omega) (by omega) (by omega)
theorem eqJ_self (k : Nat) (l : List S39) (hl : l.length ≤ 1048576) (hk : l.length < k) : laws_eqJointS.f k l l = some true := by
  unfold laws_eqJointS.f
  rw [if_pos rfl]
  exact eqJ_rounds l hl l.length k 0 (by omega) (by omega) hk
theorem eqM_self (k : Nat) (l : List Int) (js : List S39) (hl : l.length ≤ 1048576) (hj : js.length ≤ 1048576) (hk : 1048576 < k) : laws_eqMotion.f k l js l js = some true := by
  unfold laws_eqMotion.f
  rw [eqStack_self k l hl (by omega), eqJ_self k js hj (by omega)]
  rfl
end Go.Proofs.YtdgillfbdlmloaaGreatDoor.Core
