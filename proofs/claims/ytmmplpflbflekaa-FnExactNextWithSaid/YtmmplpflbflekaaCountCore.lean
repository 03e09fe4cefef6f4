/- How many values below one have a digit on a wheel: both texts. -/
import Derived.Test.YtmmplpflbflekaaStackPlace
import Derived.Test.YtmmplpflbflekaaPx7
namespace Go.Proofs.Ytmmplpflbflekaa.Core
open Go.RowKit Go.Proofs.Ytmmplpflbflekaa.P Go.Proofs.YtmmplpflbflekaaW.PrintWords Go.Proofs.YtmmplpflbflekaaW.PrintMore
theorem max_spec (a b : Int) : spec_l00Max.f a b = some (mx a b) := by
  unfold spec_l00Max.f mx
  repeat' split
  all_goals first | rfl | (congr 1; omega)
theorem place_bd {l : List Int} (h : validB l = true) (i : Nat) (hi : i < l.length) : 1 ≤ sizeZ (l.take i) ∧ 1 ≤ sizeZ (l.take i) * rd l (i : Int) ∧ sizeZ (l.take i) * rd l (i : Int) ≤ 1000000000000 := by
  have hb := validB_base h
  have hs := sizeZ_prod h
  have ht : ∀ b ∈ l.take i, 2 ≤ b ∧ b ≤ 100 := fun b hm => hb b (List.mem_of_mem_take hm)
  have hd : ∀ b ∈ l.drop (i + 1), 2 ≤ b ∧ b ≤ 100 := fun b hm => hb b (List.mem_of_mem_drop hm)
  have hp := prodZ_pos ht
  have hq := prodZ_pos hd
  have e1 : rd l (i : Int) = l[i] := by simp [rd, List.getD, List.getElem?_eq_getElem hi]
  have h1 := hb l[i] (List.getElem_mem hi)
  have pa : ∀ (x y : List Int), prodZ (x ++ y) = prodZ x * prodZ y := by
    intro x y
    induction x with
    | nil => simp [prodZ]
    | cons c x ih => simp [prodZ, ih, Int.mul_assoc]
  have e2 : prodZ l = prodZ (l.take i) * l[i] * prodZ (l.drop (i + 1)) := by
    have : l = l.take i ++ l[i] :: l.drop (i + 1) := by rw [← List.drop_eq_getElem_cons hi, List.take_append_drop]
    have e0 : prodZ l = prodZ (l.take i ++ l[i] :: l.drop (i + 1)) := congrArg prodZ this
    rw [e0, pa, Int.mul_assoc]
    rfl
  have m1 : 1 * 2 ≤ prodZ (l.take i) * l[i] := Int.mul_le_mul hp h1.1 (by omega) (by omega)
  have m2 : prodZ (l.take i) * l[i] * 1 ≤ prodZ (l.take i) * l[i] * prodZ (l.drop (i + 1)) := Int.mul_le_mul_of_nonneg_left hq (by omega)
  have m3 : prodZ (l.take i) * 2 ≤ prodZ (l.take i) * l[i] := Int.mul_le_mul_of_nonneg_left h1.1 (by omega)
  have e5 : sizeZ (l.take i) = prodZ (l.take i) := by
    have e : sizeZ (l.take i) = mn (1 * prodZ (l.take i)) 1000000000001 := sizeFrom_eq ht 1 (by omega) (by omega)
    rw [Int.one_mul] at e
    unfold mn at e
    split at e <;> omega
  rw [e5, e1]
  omega
theorem below_same (k : Nat) (l : List Int) (hl : l.length ≤ 1048576) (hk : l.length < k) (h : validB l = true) (a w g : Int) (h0 : 0 ≤ w) (h1 : w < l.length) : ∃ r, spec_l01Below.f k l a w g = some r ∧ impl_Stack_countBelow.f k l a w g = some r := by
  have hp := place_bd h w.toNat (by omega)
  rw [show ((w.toNat : Nat) : Int) = w by omega] at hp
  have hb := validB_base h
  have e1 : rd l w = l[w.toNat]'(by omega) := by simp [rd, List.getD, List.getElem?_eq_getElem (show w.toNat < l.length by omega)]
  have hr := hb _ (List.getElem_mem (show w.toNat < l.length by omega))
  rw [← e1] at hr
  unfold spec_l01Below.f impl_Stack_countBelow.f
  rw [place_spec k l w hl hk h0 (by omega), place_impl k l w hl hk h0 (by omega)]
  simp only [Option.bind_some]
  rw [if_pos h0, if_pos h1, if_pos h0, if_pos h1, wr (show -9223372036854775808 ≤ rd l w ∧ rd l w ≤ 9223372036854775807 by omega), wr (show -9223372036854775808 ≤ sizeZ (l.take w.toNat) * rd l w ∧ sizeZ (l.take w.toNat) * rd l w ≤ 9223372036854775807 by omega), if_neg (by omega), if_neg (by omega), min_spec]
  simp only [Option.bind_some, max_spec]
  refine ⟨_, rfl, ?_⟩
  generalize sizeZ (l.take w.toNat) = P at *
  generalize wrap64 (Int.tmod a (P * rd l w) - wrap64 (g * P)) = R
  have e : mx 0 (mn P R) = mn (mx R 0) P := by
    unfold mx mn
    repeat' split
    all_goals omega
  rw [e]
end Go.Proofs.Ytmmplpflbflekaa.Core
