/- The reference's split and its numbers: what they come to. -/
import Derived.Test.YtdgillfbdlmloaaDoorWordCore
import Derived.Test.YtdgillfbdlmloaaDoorPx7
namespace Go.Proofs.YtdgillfbdlmloaaDoor.Core
open Go.RowKit Go.Proofs.YtdgillfbdlmloaaDoor.P Go.Proofs.YtdgillfbdlmloaaDoorW.PrintWords Go.Proofs.YtdgillfbdlmloaaDoorW.PrintMore
set_option linter.unusedSimpArgs false
theorem bt_some {s : ByteArray} {i : Nat} (h : i < s.size) : ∃ c : UInt8, s.data.toList[i]? = some c ∧ bt s (i : Int) = (c.toNat : Int) := by
  refine ⟨s[i], Lib.data_getElem? s i h, ?_⟩
  unfold bt
  rw [dif_pos (show ((i : Int)).toNat < s.size by simpa using h)]
  simp
theorem ext_ext {s : ByteArray} {b i : Nat} (hi : b ≤ i) : (s.extract b s.size).extract 0 (i - b) = s.extract b i ∧ (s.extract b s.size).extract (i - b + 1) (s.extract b s.size).size = s.extract (i + 1) s.size := by
  constructor
  · apply ba_inj
    rw [Lib.extract_data, Lib.extract_to_end, Lib.extract_data]
    simp
  · apply ba_inj
    rw [Lib.extract_to_end, Lib.extract_to_end, Lib.extract_to_end, List.drop_drop]
    congr 1
    omega
theorem split_rounds (c : UInt8) (s : ByteArray) (hs : s.size ≤ 1048576) : ∀ (d k : Nat) (out : List ByteArray) (b i : Nat), b ≤ i → i + d = s.size → (∀ j, b ≤ j → j < i → s.data.toList[j]? ≠ some c) → out.length ≤ i → d < k →
    spec_l01Split.l0 k s (c.toNat : Int) out (b : Int) (i : Int) = some (out ++ wordsB c (s.extract b s.size)) := by
  intro d
  induction d with
  | zero =>
    intro k out b i hb hi hn ho hk
    obtain ⟨k, rfl⟩ : ∃ m, k = m + 1 := ⟨k - 1, by omega⟩
    simp only [spec_l01Split.l0]
    rw [if_neg (by omega), if_pos (by omega), if_pos (by omega), if_pos (by omega), Int.toNat_natCast]
    rw [words_miss (ib_miss (fun k hk => ?_))]
    rw [Lib.extract_to_end, List.getElem?_drop] at hk
    by_cases hlt : b + k < i
    · exact hn (b + k) (by omega) hlt hk
    · have := (List.getElem?_eq_some_iff.1 hk).1
      rw [ba_len] at this
      omega
  | succ d ih =>
    intro k out b i hb hi hn ho hk
    obtain ⟨k, rfl⟩ : ∃ m, k = m + 1 := ⟨k - 1, by omega⟩
    obtain ⟨x, hx, hbt⟩ := bt_some (s := s) (i := i) (by omega)
    have hw : wrap64 ((i : Int) + 1) = ((i + 1 : Nat) : Int) := by rw [wrd (by omega)]; omega
    simp only [spec_l01Split.l0]
    rw [if_pos (by omega), if_pos (by omega), hbt, hw]
    by_cases hc : x = c
    · subst hc
      rw [if_pos rfl, if_pos (by omega), if_pos (by omega), if_pos (by omega), if_pos (by omega), Int.toNat_natCast, Int.toNat_natCast]
      rw [ih k _ (i + 1) (i + 1) (Nat.le_refl _) (by omega) (fun j h1 h2 => by omega) (by rw [List.length_append]; simp; omega) (by omega)]
      have hix : Lib.index (s.extract b s.size).data.toList [x] = ((i - b : Nat) : Int) := ib_hit (by
        rw [Lib.extract_to_end, List.getElem?_drop, show b + (i - b) = i by omega]
        exact hx) (fun k hk e => by
        rw [Lib.extract_to_end, List.getElem?_drop] at e
        exact hn (b + k) (by omega) (by omega) e)
      obtain ⟨e1, e2⟩ := ext_ext (s := s) hb
      rw [words_hit hix, e1, e2, List.append_assoc]
      rfl
    · have hne : ¬ (x.toNat : Int) = (c.toNat : Int) := fun e => hc (UInt8.toNat_inj.mp (by omega))
      rw [if_neg hne]
      refine ih k out b (i + 1) (by omega) (by omega) (fun j h1 h2 => ?_) (by omega) (by omega)
      by_cases hj : j = i
      · subst hj
        rw [hx]
        exact fun e => hc (Option.some.inj e)
      · exact hn j h1 (by omega)
theorem split_spec (c : UInt8) (s : ByteArray) (hs : s.size ≤ 1048576) (k : Nat) (hk : s.size < k) : spec_l01Split.f k s (c.toNat : Int) = some (wordsB c s) := by
  unfold spec_l01Split.f
  have := split_rounds c s hs s.size k [] 0 0 (Nat.le_refl _) (by omega) (fun j h1 h2 => by omega) (by simp) hk
  rw [show s.extract 0 s.size = s by apply ba_inj; rw [Lib.extract_to_end]; rfl] at this
  exact this
/-- The number that a word spells, as the reference reads it. -/
def numP (t : ByteArray) : Int × Bool := if canonB t.data.toList = true then (((digV 0 t.data.toList : Nat) : Int), true) else (0, false)
theorem num_rounds (t : ByteArray) (hs : t.size ≤ 9) : ∀ (d k n i : Nat), i + d = t.size → n < 10 ^ i → d < k → spec_l01Number.l0 k t (n : Int) (i : Int) = some (if (t.data.toList.drop i).all isDig = true then (((digV n (t.data.toList.drop i) : Nat) : Int), true) else (0, false)) := by
  intro d
  induction d with
  | zero =>
    intro k n i hi hn hk
    obtain ⟨k, rfl⟩ : ∃ m, k = m + 1 := ⟨k - 1, by omega⟩
    simp only [spec_l01Number.l0]
    rw [if_neg (by omega), List.drop_eq_nil_of_le (by rw [ba_len]; omega)]
    rw [List.all_nil, if_pos rfl, digV_nil]
  | succ d ih =>
    intro k n i hi hn hk
    obtain ⟨k, rfl⟩ : ∃ m, k = m + 1 := ⟨k - 1, by omega⟩
    obtain ⟨x, hx, hbt⟩ := bt_some (s := t) (i := i) (by omega)
    have hil : i < t.data.toList.length := by rw [ba_len]; omega
    have hx2 : t.data.toList[i] = x := (List.getElem?_eq_some_iff.1 hx).2
    have hdr : t.data.toList.drop i = x :: t.data.toList.drop (i + 1) := by rw [List.drop_eq_getElem_cons hil, hx2]
    have hw : wrap64 ((i : Int) + 1) = ((i + 1 : Nat) : Int) := by rw [wrd (by omega)]; omega
    have h9 : (10 : Nat) ^ i ≤ 10 ^ 9 := Nat.pow_le_pow_right (by omega) (by omega)
    simp only [spec_l01Number.l0]
    rw [if_pos (by omega), if_pos (by omega), hbt, hdr, List.all_cons, digV_cons]
    by_cases c1 : (x.toNat : Int) < 48
    · rw [if_pos c1]
      have : isDig x = false := Bool.eq_false_iff.mpr (fun e => by have := (isDig_iff x).1 e; omega)
      rw [this, Bool.false_and, if_neg (by decide)]
    · rw [if_neg c1]
      by_cases c2 : (x.toNat : Int) > 57
      · rw [if_pos c2]
        have : isDig x = false := Bool.eq_false_iff.mpr (fun e => by have := (isDig_iff x).1 e; omega)
        rw [this, Bool.false_and, if_neg (by decide)]
      · rw [if_neg c2]
        have hd : isDig x = true := (isDig_iff x).2 (by omega)
        have hv : wrap64 (wrap64 (10 * (n : Int)) + ((x.toNat : Int) - 48) % 256) = ((10 * n + (x.toNat - 48) : Nat) : Int) := by
          rw [wrd (n := 10 * (n : Int)) (by omega), wrd (by omega)]
          omega
        rw [hd, Bool.true_and, hv, hw]
        exact ih k _ (i + 1) (by omega) (by rw [Nat.pow_succ]; omega) (by omega)
theorem num_spec (t : ByteArray) (k : Nat) (hk : 20 < k) : spec_l01Number.f k t = some (numP t) := by
  obtain ⟨k, rfl⟩ : ∃ m, k = m + 1 := ⟨k - 1, by omega⟩
  have hl := ba_len t
  unfold spec_l01Number.f numP
  rw [ByteArray.toList_eq]
  by_cases h0 : t.data.toList = []
  · rw [if_pos h0]
    simp only [spec_l01Number.j0]
    rw [if_pos trivial, h0]
    rfl
  · rw [if_neg h0]
    have hpos : 0 < t.size := by
      rw [← hl]
      exact List.length_pos_iff.mpr h0
    by_cases h9 : (t.size : Int) > 9
    · rw [if_pos h9]
      simp only [spec_l01Number.j0]
      have : canonB t.data.toList = false := by
        unfold canonB
        rw [decide_eq_false (by omega), Bool.false_and]
      rw [if_pos trivial, this, if_neg (by decide)]
    · rw [if_neg h9, if_pos (by omega)]
      obtain ⟨x, hx, hbt⟩ := bt_some (s := t) (i := 0) hpos
      have hb0 : bt t 0 = (x.toNat : Int) := hbt
      have hh : t.data.toList.head? = some x := by rw [List.head?_eq_getElem?]; exact hx
      have hr := num_rounds t (by omega) t.size k 0 0 (by omega) (by omega) (by omega)
      rw [List.drop_zero] at hr
      have hcan : ¬ (x = 48 ∧ 1 < t.size) → canonB t.data.toList = t.data.toList.all isDig := fun hn => by
        unfold canonB
        have : (t.data.toList.head? == some 48 && decide (1 < t.data.toList.length)) = false := by
          rw [hh, hl, Bool.and_eq_false_iff]
          by_cases e : x = 48
          · exact .inr (decide_eq_false (fun h => hn ⟨e, h⟩))
          · exact .inl (by simpa using e)
        rw [this, decide_eq_true (by omega)]
        simp
      rw [hb0]
      by_cases h48 : (x.toNat : Int) = 48
      · have hx48 : x = 48 := u8_eq (n := 48) (by omega)
        rw [if_pos h48]
        by_cases h1 : (t.size : Int) > 1
        · rw [decide_eq_true h1]
          simp only [spec_l01Number.j0]
          have : canonB t.data.toList = false := by
            unfold canonB
            rw [hh, hx48, decide_eq_true (show 1 < t.data.toList.length by omega)]
            simp
          rw [if_pos trivial, this, if_neg (by decide)]
        · rw [decide_eq_false h1]
          simp only [spec_l01Number.j0]
          rw [if_neg (by decide), hcan (fun h => by omega)]
          exact hr
      · rw [if_neg h48]
        simp only [spec_l01Number.j0]
        rw [if_neg (by decide), hcan (fun h => h48 (by rw [h.1]; rfl))]
        exact hr
end Go.Proofs.YtdgillfbdlmloaaDoor.Core
