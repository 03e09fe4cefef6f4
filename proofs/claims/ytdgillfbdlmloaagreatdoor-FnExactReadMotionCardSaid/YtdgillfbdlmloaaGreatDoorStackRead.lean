/- The stack that a text spells: both texts read the same. -/
import Derived.Test.YtdgillfbdlmloaaGreatDoorDecCore
import Derived.Test.YtdgillfbdlmloaaGreatDoorReadS
import Derived.Test.YtdgillfbdlmloaaGreatDoorStackE
import Derived.Test.YtdgillfbdlmloaaGreatDoorPx3
namespace Go.Proofs.YtdgillfbdlmloaaGreatDoor.Core
open Go.RowKit Go.Proofs.YtdgillfbdlmloaaGreatDoor.P Go.Proofs.YtdgillfbdlmloaaGreatDoorW.PrintWords Go.Proofs.YtdgillfbdlmloaaGreatDoorW.PrintMore
set_option linter.unusedSimpArgs false
theorem upto_words (ws : List ByteArray) : (upto (bkS ws) ws.length).map (·.2) = ws.reverse := by
  apply List.ext_getElem?
  intro i
  unfold upto bkS
  rw [List.map_map, List.getElem?_map]
  by_cases h : i < ws.length
  · rw [List.getElem?_range h, List.getElem?_reverse h]
    have e : ((ws.length : Int) - 1 - i).toNat = ws.length - 1 - i := by omega
    simp only [Option.map_some, Function.comp, rdOf, e]
    rw [List.getD_eq_getElem?_getD, List.getElem?_eq_getElem (show ws.length - 1 - i < ws.length by omega)]
    rfl
  · rw [List.getElem?_eq_none (by simp; omega), List.getElem?_eq_none (by simp; omega)]
    rfl
theorem upto_bases (l : List Int) : (upto (bk l) l.length).map (·.2) = l.reverse := by
  apply List.ext_getElem?
  intro i
  unfold upto bk
  rw [List.map_map, List.getElem?_map]
  by_cases h : i < l.length
  · rw [List.getElem?_range h, List.getElem?_reverse h]
    have e : ((l.length : Int) - 1 - i).toNat = l.length - 1 - i := by omega
    simp only [Option.map_some, Function.comp, rd, e]
    rw [List.getD_eq_getElem?_getD, List.getElem?_eq_getElem (show l.length - 1 - i < l.length by omega)]
    rfl
  · rw [List.getElem?_eq_none (by simp; omega), List.getElem?_eq_none (by simp; omega)]
    rfl
theorem numsR_eq (ws : List ByteArray) : numsR ws = ws.reverse.map num8 := by
  unfold numsR
  rw [← upto_words, List.map_map]
  rfl
theorem textS_eq (l : List Int) : (textS l).data.toList = Lib.join (l.reverse.map fun n => (decS (wrap64 n)).data.toList) [58] := by
  unfold textS
  rw [← upto_bases, List.map_map]
  rfl
theorem ok_spec2 (k : Nat) (l : List Int) (hl : l.length ≤ 1048577) (hk : 3000000 < k) : spec_l01Ok.f k l = some (validB l) := by
  by_cases h : l.length ≤ 1048576
  · exact ok_spec k l h (by omega)
  · have hn : ¬ (1 ≤ (l.length : Int) ∧ (l.length : Int) ≤ 8) := by omega
    unfold spec_l01Ok.f validB
    rw [in_spec]
    simp only [Option.bind_some, decide_eq_true_eq]
    rw [if_neg hn, decide_eq_false hn]
    rfl
/-- What the reference makes of the words, the last first. -/
def stk : List ByteArray → List Int → List Int × Bool
  | [], out => (out, validB out)
  | w :: r, out => if (numP w).2 = true then (if (numP w).1 > 100 then ([], false) else stk r (out ++ [(numP w).1 % 256])) else ([], false)
theorem stk_rounds (ws : List ByteArray) (hw : ws.length ≤ 1048577) : ∀ (d k : Nat) (out : List Int), d ≤ ws.length → out.length + d ≤ ws.length → d + 3000010 < k → spec_l01Stack.l0 k ws out ((d : Int) - 1) = some (stk ((ws.take d).reverse) out) := by
  intro d
  induction d with
  | zero =>
    intro k out _ ho hk
    obtain ⟨k, rfl⟩ : ∃ m, k = m + 1 := ⟨k - 1, by omega⟩
    simp only [spec_l01Stack.l0]
    rw [if_neg (by omega), ok_spec2 k out (by omega) (by omega)]
    rfl
  | succ d ih =>
    intro k out hd ho hk
    obtain ⟨k, rfl⟩ : ∃ m, k = m + 1 := ⟨k - 1, by omega⟩
    have e1 : (ws.take (d + 1)).reverse = ws[d] :: (ws.take d).reverse := by
      rw [List.take_succ_eq_append_getElem (by omega), List.reverse_append]
      rfl
    have e2 : rdOf ByteArray.empty ws (((d + 1 : Nat) : Int) - 1) = ws[d] := by
      unfold rdOf
      rw [show (((d + 1 : Nat) : Int) - 1).toNat = d by omega, List.getD_eq_getElem?_getD, List.getElem?_eq_getElem (by omega)]
      rfl
    have e3 : wrap64 ((((d + 1 : Nat) : Int) - 1) - 1) = (d : Int) - 1 := by rw [wrd (by omega)]; omega
    simp only [spec_l01Stack.l0]
    rw [if_pos (by omega), if_pos (by omega), if_pos (by omega), e2, num_spec ws[d] k (by omega), e1]
    simp only [Option.bind_some, stk]
    by_cases c1 : (numP ws[d]).2 = true
    · rw [if_pos c1, if_pos c1]
      by_cases c2 : (numP ws[d]).1 > 100
      · rw [if_pos c2, if_pos c2]
      · rw [if_neg c2, if_neg c2, if_pos (by omega), e3]
        exact ih k _ (by omega) (by rw [List.length_append]; simp; omega) (by omega)
    · rw [if_neg c1, if_neg c1]
/-- A word that a stack may hold. -/
def goodW (w : ByteArray) : Prop := (numP w).2 = true ∧ (numP w).1 ≤ 100
theorem stk_good (rs : List ByteArray) (h : ∀ w ∈ rs, goodW w) : ∀ out, stk rs out = (out ++ rs.map (fun w => (numP w).1), validB (out ++ rs.map (fun w => (numP w).1))) := by
  induction rs with
  | nil =>
    intro out
    simp [stk]
  | cons w r ih =>
    intro out
    have hw := h w (by simp)
    have h0 : 0 ≤ (numP w).1 := by
      unfold numP
      split <;> simp
    simp only [stk]
    rw [if_pos hw.1, if_neg (by have := hw.2; omega), ih (fun x hx => h x (by simp [hx])), show (numP w).1 % 256 = (numP w).1 by have := hw.2; omega]
    simp
theorem stk_bad (rs : List ByteArray) (h : ∃ w ∈ rs, ¬ goodW w) : ∀ out, stk rs out = ([], false) := by
  induction rs with
  | nil =>
    obtain ⟨w, hw, _⟩ := h
    simp at hw
  | cons w r ih =>
    intro out
    simp only [stk]
    by_cases c1 : (numP w).2 = true
    · rw [if_pos c1]
      by_cases c2 : (numP w).1 > 100
      · rw [if_pos c2]
      · rw [if_neg c2]
        refine ih ?_ _
        obtain ⟨x, hx, hb⟩ := h
        rw [List.mem_cons] at hx
        rcases hx with rfl | hx
        · exact absurd ⟨c1, by omega⟩ hb
        · exact ⟨x, hx, hb⟩
    · rw [if_neg c1]
theorem good_facts {w : ByteArray} (h : goodW w) : pu8 w = some (digV 0 w.data.toList) ∧ num8 w = (numP w).1 ∧ (decS (wrap64 (numP w).1)).data.toList = w.data.toList ∧ w.data.toList ≠ [] := by
  obtain ⟨h1, h2⟩ := h
  have hc : canonB w.data.toList = true := by
    unfold numP at h1
    split at h1
    · assumption
    · cases h1
  have e : (numP w).1 = ((digV 0 w.data.toList : Nat) : Int) := by
    unfold numP
    rw [if_pos hc]
  rw [e] at h2
  have hne : w.data.toList ≠ [] := by
    intro e0
    rw [e0] at hc
    cases hc
  have hp : pu8 w = some (digV 0 w.data.toList) := by
    have hall : w.data.toList.all isDig = true := by
      unfold canonB at hc
      simp only [Bool.and_eq_true] at hc
      exact hc.2.1
    unfold pu8 Lib.parseUintB
    rw [if_neg hne, parseM (2 ^ 8 - 1) (by omega) _ 0 hall (by omega)]
  refine ⟨hp, ?_, ?_, hne⟩
  · unfold num8
    rw [hp, e]
    show ((digV 0 w.data.toList : Nat) : Int) % 256 = _
    omega
  · rw [e, wrd (by omega)]
    unfold decS
    rw [Lib.itoa_nonneg, canon_dec hc]
theorem num_good {w : ByteArray} {n : Int} (h0 : 0 ≤ n) (h1 : n ≤ 100) (h : w.data.toList = (decS (wrap64 n)).data.toList) : goodW w := by
  obtain ⟨m, rfl⟩ := Int.eq_ofNat_of_zero_le h0
  have e : w.data.toList = Lib.decDigits m := by
    rw [h, wrd (by omega)]
    unfold decS
    rw [Lib.itoa_nonneg]
  obtain ⟨d1, d2⟩ := dec_canon (n := m) (by omega)
  unfold goodW numP
  rw [e, if_pos d1, d2]
  exact ⟨rfl, h1⟩
theorem words_empty {c : UInt8} {s : ByteArray} (h : s.data.toList = []) : wordsB c s = [s] := words_miss (ib_miss (fun k => by rw [h]; simp))
theorem pu8_empty {s : ByteArray} (h : s.data.toList = []) : pu8 s = none := by
  unfold pu8 Lib.parseUintB
  rw [if_pos h]
theorem empty_ne {a0 : ByteArray} (h : (⟨#[]⟩ : ByteArray).toList = a0.toList) : a0.data.toList = [] := by
  rw [ByteArray.toList_eq, ByteArray.toList_eq] at h
  exact h.symm
theorem readStack_both (k : Nat) (a0 : ByteArray) (hs : a0.size ≤ 1048576) (hk : 5000000 < k) : ∃ r, spec_ReadStack.f k a0 = some r ∧ impl_ReadStack.f a0 = some r ∧ r.1.length ≤ 8 := by
  have hwl := wordsB_le 58 a0
  have h58 : spec_l01Split.f k a0 58 = some (wordsB 58 a0) := split_spec 58 a0 hs k (by omega)
  have hst := stk_rounds (wordsB 58 a0) (by omega) (wordsB 58 a0).length k [] (Nat.le_refl _) (by simp) (by omega)
  rw [List.take_length] at hst
  have hspec : spec_l01Stack.f k a0 = some (stk (wordsB 58 a0).reverse []) := by
    unfold spec_l01Stack.f
    rw [h58]
    simp only [Option.bind_some]
    rw [wrd (by omega)]
    exact hst
  unfold spec_ReadStack.f impl_ReadStack.f readS
  rw [hspec, if_pos hs]
  simp only [Option.bind_some]
  have hjw := join_words 58 a0.size a0 (Nat.le_refl _)
  generalize hws : wordsB 58 a0 = ws at *
  by_cases hg : ∀ w ∈ ws, goodW w
  · have hg2 : ∀ w ∈ ws.reverse, goodW w := fun w hw => hg w (List.mem_reverse.mp hw)
    have hL : numsR ws = ws.reverse.map (fun w => (numP w).1) := by
      rw [numsR_eq]
      exact List.map_congr_left (fun w hw => (good_facts (hg2 w hw)).2.1)
    have hall : (ws.all fun t => (pu8 t).isSome) = true := List.all_eq_true.2 (fun t ht => by rw [(good_facts (hg t ht)).1]; rfl)
    rw [stk_good ws.reverse hg2 [], List.nil_append, ← hL, if_pos hall]
    have htx : (textS (numsR ws)).data.toList = a0.data.toList := by
      rw [textS_eq, hL, ← List.map_reverse, List.reverse_reverse, List.map_map, ← hjw]
      congr 1
      exact List.map_congr_left (fun w hw => (good_facts (hg w hw)).2.2.1)
    unfold impl_StackText.f impl_ValidStack.f
    by_cases hv : validB (numsR ws) = true
    · have h8 := validB_len hv
      simp only [Option.bind_some]
      rw [if_pos hv, if_pos hv, if_pos h8.1, if_pos h8.2]
      simp only [Option.bind_some]
      rw [if_pos (by rw [ByteArray.toList_eq, ByteArray.toList_eq]; exact htx)]
      exact ⟨_, rfl, rfl, h8.2⟩
    · simp only [Option.bind_some]
      rw [if_neg hv, if_neg hv]
      simp only [Option.bind_some]
      rw [if_neg (fun e => by
        have h0 := empty_ne e
        have hw1 := words_empty (c := 58) h0
        rw [hws] at hw1
        exact (good_facts (hg a0 (by rw [hw1]; simp))).2.2.2 h0)]
      exact ⟨_, rfl, rfl, by simp⟩
  · have hb : ∃ w ∈ ws, ¬ goodW w := by
      simpa using hg
    have hb2 : ∃ w ∈ ws.reverse, ¬ goodW w := by
      obtain ⟨w, h1, h2⟩ := hb
      exact ⟨w, List.mem_reverse.mpr h1, h2⟩
    rw [stk_bad ws.reverse hb2 []]
    rw [if_neg (by decide)]
    by_cases hall : (ws.all fun t => (pu8 t).isSome) = true
    · rw [if_pos hall]
      unfold impl_StackText.f impl_ValidStack.f
      by_cases hv : validB (numsR ws) = true
      · have h8 := validB_len hv
        simp only [Option.bind_some]
        rw [if_pos hv, if_pos h8.1, if_pos h8.2]
        simp only [Option.bind_some]
        rw [if_neg (fun e => ?_)]
        · exact ⟨_, rfl, rfl, by simp⟩
        · rw [ByteArray.toList_eq, ByteArray.toList_eq, textS_eq] at e
          have hW := words_join 58 ((numsR ws).reverse.map fun n => (decS (wrap64 n)).data.toList) a0 (by
            intro h0
            have := congrArg List.length h0
            simp at this
            rw [this] at h8
            simp at h8) (by
            intro x hx
            obtain ⟨n, hn, rfl⟩ := List.mem_map.1 hx
            have hb := validB_base hv n (List.mem_reverse.mp hn)
            obtain ⟨m, rfl⟩ := Int.eq_ofNat_of_zero_le (show 0 ≤ n by omega)
            rw [wrd (by omega)]
            unfold decS
            rw [Lib.itoa_nonneg]
            exact dec_free (by decide) m) e.symm
          rw [hws] at hW
          obtain ⟨w, hw1, hw2⟩ := hb
          have hm : w.data.toList ∈ ws.map (·.data.toList) := List.mem_map_of_mem hw1
          rw [hW] at hm
          obtain ⟨n, hn, e2⟩ := List.mem_map.1 hm
          have hbb := validB_base hv n (List.mem_reverse.mp hn)
          exact hw2 (num_good (n := n) (by omega) (by omega) e2.symm)
      · simp only [Option.bind_some]
        rw [if_neg hv]
        simp only [Option.bind_some]
        rw [if_neg (fun e => by
          have h0 := empty_ne e
          have hw1 := words_empty (c := 58) h0
          rw [hws] at hw1
          have := List.all_eq_true.1 hall a0 (by rw [hw1]; simp)
          rw [pu8_empty h0] at this
          cases this)]
        exact ⟨_, rfl, rfl, by simp⟩
    · rw [if_neg hall]
      exact ⟨_, rfl, rfl, by simp⟩
end Go.Proofs.YtdgillfbdlmloaaGreatDoor.Core
