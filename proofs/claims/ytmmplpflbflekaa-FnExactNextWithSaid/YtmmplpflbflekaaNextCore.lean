/- The next time that a wheel shows a digit: both ways of reckoning it agree. -/
import Derived.Test.YtmmplpflbflekaaValCore
import Derived.Test.YtmmplpflbflekaaWrapped
import Derived.Test.YtmmplpflbflekaaCountCore
import Derived.Test.YtmmplpflbflekaaGivJ
namespace Go.Proofs.Ytmmplpflbflekaa.Core
open Go.RowKit Go.Proofs.Ytmmplpflbflekaa.P Go.Proofs.YtmmplpflbflekaaW.PrintWords Go.Proofs.YtmmplpflbflekaaW.PrintMore
theorem valP_split (l : List Int) : ∀ (d : List Int) (j : Nat), ∃ R, valP l d = valP (l.take j) d + prodZ (l.take j) * R := by
  induction l with
  | nil => intro d j; exact ⟨0, by simp [valP]⟩
  | cons b l ih =>
    intro d j
    cases d with
    | nil => cases j <;> exact ⟨0, by simp [valP]⟩
    | cons n d =>
      cases j with
      | zero => exact ⟨valP (b :: l) (n :: d), by simp [valP, prodZ]⟩
      | succ j =>
        obtain ⟨R, e⟩ := ih d j
        refine ⟨R, ?_⟩
        simp only [List.take_succ_cons, valP, prodZ]
        rw [e, Int.mul_add, Int.mul_assoc, Int.add_assoc]
/-- The plain sum: what is left of a turn. -/
theorem next_sum (p b lo q g : Int) (hp : 1 ≤ p) (hlo : 0 ≤ lo ∧ lo < p) (hq : 0 ≤ q ∧ q < b) (hg : 0 ≤ g ∧ g < b) (hn : q ≠ g) :
    (g * p - (lo + p * q)) % (p * b) = (if g - q < 0 then g - q + b else g - q) * p - lo := by
  by_cases h : g - q < 0
  · rw [if_pos h]
    have e : g * p - (lo + p * q) = ((g - q + b) * p - lo) + (p * b) * (-1) := by
      have : (g - q + b) * p = g * p - q * p + b * p := by rw [Int.add_mul, Int.sub_mul]
      rw [this, Int.mul_comm q p, Int.mul_comm b p]
      omega
    rw [e, Int.add_mul_emod_self_left]
    have m1 : 1 * p ≤ (g - q + b) * p := Int.mul_le_mul_of_nonneg_right (by omega) (by omega)
    have m2 : (g - q + b) * p ≤ b * p := Int.mul_le_mul_of_nonneg_right (by omega) (by omega)
    rw [Int.mul_comm b p] at m2
    refine Int.emod_eq_of_lt (by omega) ?_
    have m3 : (g - q + b) * p ≤ (b - 1) * p := Int.mul_le_mul_of_nonneg_right (by omega) (by omega)
    rw [Int.sub_mul, Int.mul_comm b p] at m3
    omega
  · rw [if_neg h]
    have e : g * p - (lo + p * q) = (g - q) * p - lo := by
      rw [Int.sub_mul, Int.mul_comm q p]
      omega
    rw [e]
    have m1 : 1 * p ≤ (g - q) * p := Int.mul_le_mul_of_nonneg_right (by omega) (by omega)
    have m3 : (g - q) * p ≤ (b - 1) * p := Int.mul_le_mul_of_nonneg_right (by omega) (by omega)
    have e2 : (b - 1) * p = p * b - p := by rw [Int.sub_mul, Int.one_mul, Int.mul_comm b p]
    rw [e2] at m3
    exact Int.emod_eq_of_lt (by omega) (by omega)
theorem next_same (l d : List Int) (hv : digOK l d = true) (hb : Bytes d) (hd : d.length = 8) (x g : Int) (h0 : 0 ≤ x) (h1 : x < (l.length : Int)) (hg0 : 0 ≤ g) (hg1 : g ≤ wrap64 (wrap64 (rd l x) - 1)) (hn : ¬ wrap64 (rd d x) = g) :
    ¬ wrap64 (sizeZ (l.take x.toNat) * wrap64 (rd l x)) = 0 ∧ ∃ r2, impl_wrapped.f (wrap64 (wrap64 (g * sizeZ (l.take x.toNat)) - Int.tmod (valZ l d) (wrap64 (sizeZ (l.take x.toNat) * wrap64 (rd l x))))) (wrap64 (sizeZ (l.take x.toNat) * wrap64 (rd l x))) = some (wrap64 (wrap64 (turnZ l d x g * sizeZ (l.take x.toNat)) - valZ (l.take x.toNat) d), r2) := by
  have hval := digOK_valid hv
  have hbase := validB_base hval
  have h8 := (validB_len hval).2
  obtain ⟨es, es1, es2⟩ := sizeZ_prod hval
  obtain ⟨eV, v0, v1⟩ := valZ_eq hv hb hd
  obtain ⟨i, rfl⟩ : ∃ i : Nat, x = i := ⟨x.toNat, by omega⟩
  have hi : i < l.length := by omega
  have hfit : Fits l d := by
    simp only [digOK, Bool.and_eq_true] at hv
    exact fits_of hv.2 hb (by omega)
  have hrl : rd l (i : Int) = l.getD i 0 := by simp [rd]
  have hrd : rd d (i : Int) = d.getD i 0 := by simp [rd]
  have hbi := bases_at hbase i hi
  have hdi := hfit.at i hi
  have hlo := valP_bd (bases_take hbase i) (hfit.take i)
  have hhi := valP_bd (bases_take hbase (i + 1)) (hfit.take (i + 1))
  have hpos := prodZ_pos (bases_take hbase i)
  obtain ⟨pb1, pb2, pb3⟩ := place_bd hval i hi
  have ep : sizeZ (l.take i) = prodZ (l.take i) := by
    have e : sizeZ (l.take i) = mn (1 * prodZ (l.take i)) 1000000000001 := sizeFrom_eq (bases_take hbase i) 1 (by omega) (by omega)
    have m : sizeZ (l.take i) * 2 ≤ sizeZ (l.take i) * rd l (i : Int) := Int.mul_le_mul_of_nonneg_left (by omega) (by omega)
    rw [Int.one_mul] at e
    unfold mn at e
    split at e <;> omega
  have ew := prodZ_next l i hi
  have evn := valP_next l d i hi (by omega)
  have eL : valZ (l.take i) d = valP (l.take i) d := by
    have hlen : (l.take i).length = i := by rw [List.length_take]; omega
    unfold valZ
    have m : prodZ (l.take i) * 1 ≤ prodZ (l.take i) * rd l (i : Int) := Int.mul_le_mul_of_nonneg_left (by omega) (by omega)
    rw [ep] at pb3
    rw [valDown_eq (l.take i) d (bases_take hbase i) (hfit.take i) (by omega) (l.take i).length 0 (Nat.le_refl _) (by omega) (by rw [List.take_length]; omega), List.take_length]
    omega
  obtain ⟨R, eR⟩ := valP_split l d (i + 1)
  have eT : turnZ l d (i : Int) g = if g - rd d (i : Int) < 0 then g - rd d (i : Int) + rd l (i : Int) else g - rd d (i : Int) := by
    have g1 : g ≤ 99 := by
      rw [wr (show -9223372036854775808 ≤ rd l (i : Int) ∧ rd l (i : Int) ≤ 9223372036854775807 by omega), wr (by omega)] at hg1
      omega
    unfold turnZ
    rw [wr (show -9223372036854775808 ≤ rd l (i : Int) ∧ rd l (i : Int) ≤ 9223372036854775807 by omega), wr (show -9223372036854775808 ≤ rd d (i : Int) ∧ rd d (i : Int) ≤ 9223372036854775807 by omega), wr (show -9223372036854775808 ≤ g - rd d (i : Int) ∧ g - rd d (i : Int) ≤ 9223372036854775807 by omega)]
    by_cases c : g - rd d (i : Int) < 0
    · rw [if_pos c, if_pos c, wr (by omega)]
    · rw [if_neg c, if_neg c]
  rw [wr (show -9223372036854775808 ≤ rd d (i : Int) ∧ rd d (i : Int) ≤ 9223372036854775807 by omega)] at hn
  rw [wr (show -9223372036854775808 ≤ rd l (i : Int) ∧ rd l (i : Int) ≤ 9223372036854775807 by omega)] at hg1 ⊢
  rw [wr (show -9223372036854775808 ≤ rd l (i : Int) - 1 ∧ rd l (i : Int) - 1 ≤ 9223372036854775807 by omega)] at hg1
  rw [eT, show ((i : Int).toNat) = i from rfl, eL, eV]
  rw [ep] at pb1 pb2 pb3 ⊢
  rw [ew, ← hrl] at hhi
  rw [evn, ← hrd] at hhi
  rw [evn, ew, ← hrd, ← hrl] at eR
  rw [← hrl] at hbi hdi
  rw [← hrd] at hdi
  generalize hB : rd l (i : Int) = b at *
  generalize hQ : rd d (i : Int) = q at *
  generalize hP : prodZ (l.take i) = p at *
  generalize hLo : valP (l.take i) d = lo at *
  generalize hV : valP l d = V at *
  have hsum := next_sum p b lo q g hpos hlo hdi ⟨hg0, by omega⟩ hn
  have hmod : Int.tmod V (p * b) = lo + p * q := by
    rw [Int.tmod_eq_emod_of_nonneg v0, eR, Int.add_mul_emod_self_left]
    exact Int.emod_eq_of_lt hhi.1 hhi.2
  have n1 : 0 ≤ g * p := Int.mul_nonneg hg0 (by omega)
  have n2 : g * p ≤ 100 * 1000000000000 := Int.mul_le_mul (by omega) (by have : p * 1 ≤ p * b := Int.mul_le_mul_of_nonneg_left (by omega) (by omega); omega) (by omega) (by omega)
  have n3 : p * 1 ≤ p * b := Int.mul_le_mul_of_nonneg_left (by omega) (by omega)
  rw [wr (show -9223372036854775808 ≤ p * b ∧ p * b ≤ 9223372036854775807 by omega), hmod, wr (show -9223372036854775808 ≤ g * p ∧ g * p ≤ 9223372036854775807 by omega)]
  rw [wr (show -9223372036854775808 ≤ g * p - (lo + p * q) ∧ g * p - (lo + p * q) ≤ 9223372036854775807 by omega)]
  refine ⟨by omega, (g * p - (lo + p * q)) / (p * b), ?_⟩
  rw [wrapped_eq (g * p - (lo + p * q)) (p * b) (by omega) (by omega) (by omega) (by omega), hsum]
  have t1 := Int.emod_nonneg (g * p - (lo + p * q)) (show p * b ≠ 0 by omega)
  have t2 := Int.emod_lt_of_pos (g * p - (lo + p * q)) (show 0 < p * b by omega)
  rw [hsum] at t1 t2
  generalize (if g - q < 0 then g - q + b else g - q) * p = X at *
  rw [wr (show -9223372036854775808 ≤ X ∧ X ≤ 9223372036854775807 by omega), wr (show -9223372036854775808 ≤ X - lo ∧ X - lo ≤ 9223372036854775807 by omega)]
theorem next_both (k : Nat) (l : List Int) (hl : l.length ≤ 1048576) (hk : 2 * l.length + 1 < k) (a0 a1 a2 a3 a4 a5 a6 a7 : Int) (hb : Bytes [a0, a1, a2, a3, a4, a5, a6, a7]) (x g : Int) : ∃ r : Int × Int, spec_NextWith.f k l a0 a1 a2 a3 a4 a5 a6 a7 x g = some r ∧ impl_NextWith.f k l a0 a1 a2 a3 a4 a5 a6 a7 x g = some r := by
  unfold spec_NextWith.f impl_NextWith.f
  rw [digits_spec k l hl hk a0 a1 a2 a3 a4 a5 a6 a7 hb, digits_impl l a0 a1 a2 a3 a4 a5 a6 a7]
  simp only [Option.bind_some]
  by_cases hv : digOK l [a0, a1, a2, a3, a4, a5, a6, a7] = true
  · have h8 := (validB_len (digOK_valid hv)).2
    unfold impl_Stack_hasDigit.f
    simp only [if_pos hv, if_pos h8, wheel_spec l x hl, wheel_impl l x hl, Option.bind_some, decide_eq_true_eq]
    by_cases hwh : 0 ≤ x ∧ x < (l.length : Int)
    · simp only [if_pos hwh, if_pos hwh.1, if_pos hwh.2, in_spec, within_f, Option.bind_some, decide_eq_true_eq]
      by_cases hg : 0 ≤ g ∧ g ≤ wrap64 (wrap64 (rd l x) - 1)
      · simp only [if_pos hg]
        by_cases he : wrap64 (rd [a0, a1, a2, a3, a4, a5, a6, a7] x) = g
        · simp only [if_pos he]
          exact ⟨_, rfl, rfl⟩
        · obtain ⟨c1, r2, c2⟩ := next_same l [a0, a1, a2, a3, a4, a5, a6, a7] hv hb rfl x g hwh.1 hwh.2 hg.1 hg.2 he
          simp only [if_neg he, place_spec k l x hl (by omega) hwh.1 (by omega), place_impl k l x hl (by omega) hwh.1 (by omega), Option.bind_some, if_neg c1, c2]
          exact ⟨_, rfl, rfl⟩
      · simp only [if_neg hg]
        exact ⟨_, rfl, rfl⟩
    · simp only [if_neg hwh, Option.bind_some, Bool.false_eq_true, if_false]
      exact ⟨_, rfl, rfl⟩
  · simp only [if_neg hv]
    exact ⟨_, rfl, rfl⟩
end Go.Proofs.Ytmmplpflbflekaa.Core
