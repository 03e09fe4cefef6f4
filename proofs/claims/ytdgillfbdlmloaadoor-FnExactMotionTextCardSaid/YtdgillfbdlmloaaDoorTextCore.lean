/- Numerals and joined texts: both ways of making them agree. -/
import Derived.Test.YtdgillfbdlmloaaDoorStackCore6
import Derived.Test.YtdgillfbdlmloaaDoorStackT
import Derived.Test.YtdgillfbdlmloaaDoorPx1
import Derived.Test.YtdgillfbdlmloaaDoorPx2
namespace Go.Proofs.YtdgillfbdlmloaaDoor.Core
open Go.RowKit Go.Proofs.YtdgillfbdlmloaaDoor.P Go.Proofs.YtdgillfbdlmloaaDoorW.PrintWords Go.Proofs.YtdgillfbdlmloaaDoorW.PrintMore
theorem ba_app (a b : List UInt8) : (⟨a.toArray⟩ : ByteArray) ++ (⟨b.toArray⟩ : ByteArray) = ⟨(a ++ b).toArray⟩ := by
  apply ByteArray.ext
  simp [ByteArray.data_append]
theorem ba_size (a : List UInt8) : (⟨a.toArray⟩ : ByteArray).size = a.length := by
  show a.toArray.size = _
  simp
theorem decS_size (n : Int) (h0 : -9223372036854775808 ≤ n) (h1 : n ≤ 9223372036854775807) : (decS n).size ≤ 21 := by
  unfold decS
  rw [ba_size]
  exact Lib.itoa_length_le n h0 h1
theorem dig_eq (n : Int) (h0 : 0 ≤ n) : strOfNums [wrap64 (48 + Int.tmod n 10) % 256] = ⟨[UInt8.ofNat (48 + n.toNat % 10)].toArray⟩ := by
  have e1 : Int.tmod n 10 = n % 10 := Int.tmod_eq_emod_of_nonneg h0
  rw [e1, wr (by omega)]
  unfold strOfNums
  rw [List.map_cons, List.map_nil, show ((48 + n % 10) % 256).toNat = 48 + n.toNat % 10 by omega]
theorem dec_spec : ∀ (m k : Nat) (n : Int), 0 ≤ n → n.toNat ≤ m → m < k → n ≤ 1000000000000 → spec_Decimal.f k n = some (decS n) := by
  intro m
  induction m with
  | zero =>
    intro k n h0 hm hk h1
    obtain ⟨k, rfl⟩ : ∃ j, k = j + 1 := ⟨k - 1, by omega⟩
    obtain rfl : n = 0 := by omega
    rw [spec_Decimal.f, if_pos (by omega), dig_eq 0 (by omega)]
    unfold decS Lib.itoa
    rw [if_neg (by omega), Lib.decDigits, dif_pos (by decide)]
    rfl
  | succ m ih =>
    intro k n h0 hm hk h1
    obtain ⟨k, rfl⟩ : ∃ j, k = j + 1 := ⟨k - 1, by omega⟩
    have e2 : Int.tdiv n 10 = n / 10 := Int.tdiv_eq_ediv_of_nonneg h0
    have hdig := dig_eq n h0
    by_cases c : n < 10
    · rw [spec_Decimal.f, if_pos c, hdig]
      unfold decS Lib.itoa
      rw [if_neg (by omega), Lib.decDigits, dif_pos (by omega), show n.toNat % 10 = n.toNat by omega]
    · rw [spec_Decimal.f, if_neg c, e2, wr (show -9223372036854775808 ≤ n / 10 ∧ n / 10 ≤ 9223372036854775807 by omega), ih k (n / 10) (by omega) (by omega) (by omega) (by omega)]
      simp only [Option.bind_some]
      rw [hdig]
      have hs := decS_size (n / 10) (by omega) (by omega)
      rw [if_pos (by show (decS (n / 10)).size + 1 ≤ 9223372036854775807; omega)]
      unfold decS Lib.itoa
      rw [ba_app, if_neg (by omega), if_neg (by omega), Lib.decDigits.eq_def n.toNat, dif_neg (by omega), show (n / 10).toNat = n.toNat / 10 by omega]
theorem join_snoc (xs : List (List UInt8)) (y sep : List UInt8) (h : xs ≠ []) : Lib.join (xs ++ [y]) sep = Lib.join xs sep ++ sep ++ y := by
  cases xs with
  | nil => exact absurd rfl h
  | cons x r =>
    rw [List.cons_append, Lib.join_cons, Lib.join_cons]
    simp [Lib.joinTail]
/-- What has been written when j have come. -/
def preS (l : List Int) (j : Nat) : List (List UInt8) := (upto (bk l) j).map fun x => (decS (wrap64 x.2)).data.toList
theorem preS_succ (l : List Int) (j : Nat) : preS l (j + 1) = preS l j ++ [(decS (wrap64 (bk l j).2)).data.toList] := by
  unfold preS
  rw [upto_succ, List.map_append]
  rfl
theorem preS_len (l : List Int) (j : Nat) : (preS l j).length = j := by simp [preS, upto_length]
theorem preS_le (l : List Int) (j : Nat) (hj : j ≤ 1000) : (Lib.join (preS l j) [58]).length ≤ 140737488355328 := join_le _ _ rfl (fun y hy => by
  unfold preS at hy
  simp only [List.mem_map] at hy
  obtain ⟨a, _, rfl⟩ := hy
  have := Lib.itoa_length_le (wrap64 a.2) (w64_in _).1 (w64_in _).2
  show (Lib.itoa (wrap64 a.2)).length ≤ 50
  omega) (by rw [preS_len]; exact hj)
theorem bases_rounds (l : List Int) (hb : ∀ b ∈ l, 2 ≤ b ∧ b ≤ 100) (h8 : l.length ≤ 8) : ∀ (d j k : Nat) (x : Int), j + d = l.length → x = (l.length : Int) - 1 - j → d + 200 < k →
    spec_l01Bases.l0 k l (if j = 0 then ⟨#[]⟩ else if j = l.length then ⟨(Lib.join (preS l j) [58]).toArray⟩ else ⟨(Lib.join (preS l j) [58] ++ [58]).toArray⟩) x = some ⟨(Lib.join (preS l l.length) [58]).toArray⟩ := by
  intro d
  induction d with
  | zero =>
    intro j k x h0 h1 hk
    obtain ⟨k, rfl⟩ : ∃ m, k = m + 1 := ⟨k - 1, by omega⟩
    simp only [spec_l01Bases.l0]
    rw [if_neg (by omega), show j = l.length by omega]
    by_cases z : l.length = 0
    · rw [if_pos z, z]
      rfl
    · rw [if_neg z, if_pos rfl]
  | succ d ih =>
    intro j k x h0 h1 hk
    obtain ⟨k, rfl⟩ : ∃ m, k = m + 1 := ⟨k - 1, by omega⟩
    have hx0 : 0 ≤ x := by omega
    have hx1 : x < (l.length : Int) := by omega
    have hrd : rd l x = l[x.toNat]'(by omega) := by simp [rd, List.getD, List.getElem?_eq_getElem (show x.toNat < l.length by omega)]
    have hbx := hb _ (List.getElem_mem (show x.toNat < l.length by omega))
    rw [← hrd] at hbx
    have hw : wrap64 (rd l x) = rd l x := wr (by omega)
    have hdec := dec_spec 100 k (wrap64 (rd l x)) (by omega) (by omega) (by omega) (by omega)
    have hsz := decS_size (wrap64 (rd l x)) (w64_in _).1 (w64_in _).2
    have hpre : preS l (j + 1) = preS l j ++ [(decS (wrap64 (rd l x))).data.toList] := by
      rw [preS_succ, h1]
      rfl
    have hdd : decS (wrap64 (rd l x)) = ⟨((decS (wrap64 (rd l x))).data.toList).toArray⟩ := rfl
    have hle := preS_le l j (by omega)
    have hle1 := preS_le l (j + 1) (by omega)
    -- what stands behind this one
    have hO : (if j = 0 then (⟨#[]⟩ : ByteArray) else if j = l.length then ⟨(Lib.join (preS l j) [58]).toArray⟩ else ⟨(Lib.join (preS l j) [58] ++ [58]).toArray⟩) ++ decS (wrap64 (rd l x)) = ⟨(Lib.join (preS l (j + 1)) [58]).toArray⟩ := by
      by_cases z : j = 0
      · subst z
        rw [if_pos rfl, hpre, show preS l 0 = [] from rfl, List.nil_append, Lib.join_one]
        exact ba_app [] _
      · rw [if_neg z, if_neg (by omega), hpre, join_snoc _ _ _ (fun e => z (by have := preS_len l j; rw [e] at this; simpa using this.symm))]
        exact ba_app _ _
    have hOs : (if j = 0 then (⟨#[]⟩ : ByteArray) else if j = l.length then ⟨(Lib.join (preS l j) [58]).toArray⟩ else ⟨(Lib.join (preS l j) [58] ++ [58]).toArray⟩).size ≤ 140737488355329 := by
      split
      · show (0 : Nat) ≤ _
        omega
      · rw [if_neg (by omega), ba_size, List.length_append]
        simp
        omega
    have ihj := ih (j + 1) k (x - 1) (by omega) (by omega) (by omega)
    simp only [spec_l01Bases.l0]
    rw [if_pos (by omega), if_pos hx0, if_pos hx1, hdec]
    simp only [Option.bind_some]
    rw [if_pos (by omega), hO, wr (by omega)]
    rw [if_neg (by omega)] at ihj
    by_cases c : x > 0
    · rw [if_pos c, ba_size, if_pos (by omega)]
      rw [if_neg (by omega)] at ihj
      have e : (⟨(Lib.join (preS l (j + 1)) [58]).toArray⟩ : ByteArray) ++ (⟨#[58]⟩ : ByteArray) = ⟨(Lib.join (preS l (j + 1)) [58] ++ [58]).toArray⟩ := ba_app _ [58]
      rw [e]
      exact ihj
    · rw [if_neg c]
      rw [if_pos (by omega)] at ihj
      exact ihj
theorem stackText_both (k : Nat) (l : List Int) (hl : l.length ≤ 1048576) (hk : 2 * l.length + 1000 < k) : ∃ r, spec_StackText.f k l = some r ∧ impl_StackText.f l = some r := by
  unfold spec_StackText.f impl_StackText.f impl_ValidStack.f
  rw [ok_spec k l hl (by omega)]
  simp only [Option.bind_some]
  by_cases h : validB l = true
  · have h8 := validB_len h
    have hb := bases_rounds l (validB_base h) h8.2 l.length 0 k ((l.length : Int) - 1) (by omega) (by omega) (by omega)
    rw [if_pos rfl] at hb
    unfold spec_l01Bases.f
    rw [if_pos h, if_pos h, if_pos h8.1, if_pos h8.2, wr (by omega), hb]
    exact ⟨_, rfl, rfl⟩
  · rw [if_neg h, if_neg h]
    exact ⟨_, rfl, rfl⟩
end Go.Proofs.YtdgillfbdlmloaaDoor.Core
