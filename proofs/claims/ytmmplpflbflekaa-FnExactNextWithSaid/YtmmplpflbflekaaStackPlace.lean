/- Wheels and places of stacks in plain words. -/
import Derived.Test.YtmmplpflbflekaaStackCore
import Derived.Test.YtmmplpflbflekaaPx5
namespace Go.Proofs.Ytmmplpflbflekaa.Core
open Go.RowKit Go.Proofs.Ytmmplpflbflekaa.P Go.Proofs.YtmmplpflbflekaaW.PrintWords Go.Proofs.YtmmplpflbflekaaW.PrintMore
theorem wheel_spec (l : List Int) (a : Int) (hl : l.length ≤ 1048576) : spec_l01Wheel.f l a = some (decide (0 ≤ a ∧ a < l.length)) := by
  unfold spec_l01Wheel.f
  rw [in_spec, wr (by omega)]
  simp only [Option.bind_some]
  congr 1
  exact decide_eq_decide.mpr ⟨fun h => ⟨h.1, by omega⟩, fun h => ⟨h.1, by omega⟩⟩
theorem wheel_impl (l : List Int) (a : Int) (hl : l.length ≤ 1048576) : impl_Stack_hasWheel.f l a = some (decide (0 ≤ a ∧ a < l.length)) := by
  unfold impl_Stack_hasWheel.f impl_Stack_wheels.f
  simp only [Option.bind_some]
  rw [within_f, wr (by omega)]
  simp only [Option.bind_some]
  congr 1
  exact decide_eq_decide.mpr ⟨fun h => ⟨h.1, by omega⟩, fun h => ⟨h.1, by omega⟩⟩
theorem place_spec (k : Nat) (l : List Int) (a : Int) (hl : l.length ≤ 1048576) (hk : l.length < k) (h0 : 0 ≤ a) (h1 : a ≤ l.length) : spec_l01Place.f k l a = some (sizeZ (l.take a.toNat)) := by
  unfold spec_l01Place.f
  have := List.length_take_le a.toNat l
  have h2 : (l.take a.toNat).length ≤ l.length := by rw [List.length_take]; omega
  rw [if_pos h0, if_pos h1, size_spec k _ (by omega) (by omega)]
  rfl
theorem place_impl (k : Nat) (l : List Int) (a : Int) (hl : l.length ≤ 1048576) (hk : l.length < k) (h0 : 0 ≤ a) (h1 : a ≤ l.length) : impl_Stack_place.f k l a = some (sizeZ (l.take a.toNat)) := by
  unfold impl_Stack_place.f
  have h2 : (l.take a.toNat).length ≤ l.length := by rw [List.length_take]; omega
  rw [if_pos h0, if_pos h1, size_eq _ (by omega) k (by omega)]
  rfl
end Go.Proofs.Ytmmplpflbflekaa.Core
