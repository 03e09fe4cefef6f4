/- The train that a text spells: both texts read the same. -/
import Derived.Test.YtdgillfbdlmloaaDoorSplitCore
import Derived.Test.YtdgillfbdlmloaaDoorTrainOk
import Derived.Test.YtdgillfbdlmloaaDoorReadT
import Derived.Test.YtdgillfbdlmloaaDoorPx13
namespace Go.Proofs.YtdgillfbdlmloaaDoor.Core
open Go.RowKit Go.Proofs.YtdgillfbdlmloaaDoor.P Go.Proofs.YtdgillfbdlmloaaDoorW.PrintWords Go.Proofs.YtdgillfbdlmloaaDoorW.PrintMore
set_option linter.unusedSimpArgs false
/-! ### Numbers -/
theorem parseM2 (M : Nat) : ∀ (l : List UInt8) (acc : Nat), l.all isDig = true → digV acc l ≤ M → digV acc l ≤ 1844674407370955160 → Lib.parseUintM M acc l = .ok (digV acc l) := by
  intro l
  induction l with
  | nil =>
    intro acc _ _ _
    simp only [digV_nil, Lib.parseUintM]
  | cons c r ih =>
    intro acc hd hv hw
    rw [List.all_cons, Bool.and_eq_true] at hd
    have h1 := (isDig_iff c).1 hd.1
    have h2 := digV_ge r (10 * acc + (c.toNat - 48))
    simp only [digV_cons, digV_nil] at hv hw ⊢
    unfold Lib.parseUintM
    rw [if_pos h1, if_neg (by omega), if_neg (by omega), show acc * 10 + (c.toNat - 48) = 10 * acc + (c.toNat - 48) by omega]
    exact ih _ hd.2 hv hw
/-- A word of the reference's numbers is a word of the program's, with the same number. -/
theorem num_dec64 {w : ByteArray} (h : (numP w).2 = true) : dec64 w = some (numP w).1 ∧ 0 ≤ (numP w).1 ∧ (decS (numP w).1).data.toList = w.data.toList := by
  have hc : canonB w.data.toList = true := by
    unfold numP at h
    split at h
    · assumption
    · cases h
  have e : (numP w).1 = ((digV 0 w.data.toList : Nat) : Int) := by
    unfold numP
    rw [if_pos hc]
  have hc2 := hc
  unfold canonB at hc2
  simp only [Bool.and_eq_true, decide_eq_true_eq, Bool.not_eq_true'] at hc2
  obtain ⟨⟨h1, h9⟩, hall, _⟩ := hc2
  have hlt := digV_lt w.data.toList hall 0
  have hpow : (10 : Nat) ^ w.data.toList.length ≤ 10 ^ 9 := Nat.pow_le_pow_right (by omega) h9
  have hv : digV 0 w.data.toList < 1000000000 := by omega
  have hdec : (decS (numP w).1).data.toList = w.data.toList := by
    rw [e]
    unfold decS
    rw [Lib.itoa_nonneg, canon_dec hc]
  refine ⟨?_, by omega, hdec⟩
  have hp : i64P w = some (numP w).1 := by
    rw [e]
    cases hl : w.data.toList with
    | nil =>
      rw [hl] at h1
      simp at h1
    | cons c r =>
      have hd := hall
      rw [hl, List.all_cons, Bool.and_eq_true] at hd
      have hcd := (isDig_iff c).1 hd.1
      unfold i64P
      rw [hl, Lib.parseIntB_plain 64 c r (by omega) (by omega)]
      unfold Lib.parseUintB
      rw [if_neg (by simp), ← hl, parseM2 (2 ^ 64 - 1) _ 0 hall (by omega) (by omega)]
      simp only [Lib.signlessC]
      rw [if_neg (by omega)]
  unfold dec64
  rw [hp, Option.bind_some, if_pos (by rw [ByteArray.toList_eq, ByteArray.toList_eq]; exact hdec)]
theorem dec64_text {w : ByteArray} {v : Int} (h : dec64 w = some v) : (decS v).data.toList = w.data.toList := by
  unfold dec64 at h
  replace h := Option.bind_eq_some_iff.mp h
  obtain ⟨u, _, h⟩ := h
  split at h
  · rename_i e
    obtain rfl := Option.some.inj h
    rw [ByteArray.toList_eq, ByteArray.toList_eq] at e
    exact e
  · cases h
/-- A word that the program reads as a small number is one of the reference's. -/
theorem dec64_num {w : ByteArray} {v : Int} (h : dec64 w = some v) (h0 : 0 ≤ v) (h1 : v ≤ 999999999) : numP w = (v, true) := by
  obtain ⟨m, rfl⟩ := Int.eq_ofNat_of_zero_le h0
  have e := dec64_text h
  unfold decS at e
  rw [Lib.itoa_nonneg] at e
  obtain ⟨d1, d2⟩ := dec_canon (n := m) (by omega)
  unfold numP
  rw [← e, if_pos d1, d2]
/-- The number of teeth that a text spells, as the reference reads it. -/
theorem tooth_eq (w : ByteArray) : toothP w = if (numP w).2 = true ∧ 8 ≤ (numP w).1 ∧ (numP w).1 ≤ 120 then some (numP w).1 else none := by
  unfold toothP
  by_cases h : (numP w).2 = true
  · rw [(num_dec64 h).1, Option.bind_some]
    by_cases c : 8 ≤ (numP w).1 ∧ (numP w).1 ≤ 120
    · rw [if_pos c, if_pos ⟨h, c⟩]
    · rw [if_neg c, if_neg (fun x => c x.2)]
  · rw [if_neg (fun x => h x.1)]
    cases hd : dec64 w with
    | none => rfl
    | some v =>
      rw [Option.bind_some, if_neg]
      intro c
      exact h (by rw [dec64_num hd (by omega) (by omega)])
theorem tooth_text {w : ByteArray} {v : Int} (h : toothP w = some v) : (8 ≤ v ∧ v ≤ 120) ∧ (decS (wrap64 v)).data.toList = w.data.toList := by
  unfold toothP at h
  replace h := Option.bind_eq_some_iff.mp h
  obtain ⟨u, hu, h⟩ := h
  split at h
  · rename_i c
    obtain rfl := Option.some.inj h
    refine ⟨c, ?_⟩
    rw [wrd (by omega)]
    exact dec64_text hu
  · cases h
theorem tooth_free {w : ByteArray} {v : Int} {c : UInt8} (hc : isDig c = false) (h : toothP w = some v) : c ∉ w.data.toList := by
  obtain ⟨h1, h2⟩ := tooth_text h
  obtain ⟨m, rfl⟩ := Int.eq_ofNat_of_zero_le (show 0 ≤ v by omega)
  rw [← h2, wrd (by omega)]
  unfold decS
  rw [Lib.itoa_nonneg]
  exact dec_free hc m
theorem tooth_empty {w : ByteArray} (h : w.data.toList = []) : toothP w = none := by
  cases hw : toothP w with
  | none => rfl
  | some v =>
    obtain ⟨_, h2⟩ := tooth_text hw
    rw [h] at h2
    obtain ⟨h1, _⟩ := tooth_text hw
    obtain ⟨m, rfl⟩ := Int.eq_ofNat_of_zero_le (show 0 ≤ v by omega)
    rw [wrd (by omega)] at h2
    unfold decS at h2
    rw [Lib.itoa_nonneg] at h2
    have := (dec_facts m m (Nat.le_refl _)).2.2.2
    have e : (Lib.decDigits m).length = 0 := by
      have := congrArg List.length h2
      simpa using this
    omega
/-! ### A word's pair -/
/-- A pair that two words spell. -/
def pairL : List ByteArray → Option SP
  | [a, b] => (toothP a).bind fun p => (toothP b).bind fun q => some ⟨p, q⟩
  | _ => none
theorem cut_at {w : ByteArray} {i : Nat} (h : Lib.index w.data.toList [47] = i) : cutA w = w.extract 0 i ∧ cutB w = w.extract (i + 1) w.size := by
  obtain ⟨h1, h2, _⟩ := Lib.cutB_hit w ⟨#[47]⟩ i h
  exact ⟨h1, h2⟩
theorem pair_words (w : ByteArray) : pairW w = pairL (wordsB 47 w) := by
  rcases index_cases w.data.toList 47 with ⟨h, _⟩ | ⟨i, h, _, _⟩
  · obtain ⟨_, h2, _⟩ := Lib.cutB_miss w ⟨#[47]⟩ h
    have h3 : cutB w = ByteArray.empty := h2
    rw [words_miss h]
    unfold pairW
    rw [h3, tooth_empty (w := ByteArray.empty) rfl]
    cases toothP (cutA w) <;> rfl
  · obtain ⟨h1, h2⟩ := cut_at h
    rw [words_hit h, ← h1, ← h2]
    unfold pairW
    rcases index_cases (cutB w).data.toList 47 with ⟨g, _⟩ | ⟨j, g, g1, _⟩
    · rw [words_miss g]
      rfl
    · rw [words_hit g]
      obtain ⟨y, r, hy⟩ := words_ne 47 ((cutB w).extract (j + 1) (cutB w).size)
      rw [hy]
      have hn : toothP (cutB w) = none := by
        cases hq : toothP (cutB w) with
        | none => rfl
        | some v => exact absurd (List.mem_of_getElem? g1) (tooth_free (by decide) hq)
      rw [hn]
      cases toothP (cutA w) <;> rfl
/-- What a word's pair tells. -/
theorem pairW_facts {w : ByteArray} {p : SP} (h : pairW w = some p) : ((8 ≤ p.f0 ∧ p.f0 ≤ 120) ∧ (8 ≤ p.f1 ∧ p.f1 ≤ 120)) ∧ (pairS p).data.toList = w.data.toList := by
  have h0 := h
  unfold pairW at h
  replace h := Option.bind_eq_some_iff.mp h
  obtain ⟨a, ha, h⟩ := h
  replace h := Option.bind_eq_some_iff.mp h
  obtain ⟨b, hb, h⟩ := h
  obtain rfl := Option.some.inj h
  obtain ⟨a1, a2⟩ := tooth_text ha
  obtain ⟨b1, b2⟩ := tooth_text hb
  refine ⟨⟨a1, b1⟩, ?_⟩
  unfold pairS
  rcases index_cases w.data.toList 47 with ⟨g, _⟩ | ⟨i, g, g1, _⟩
  · obtain ⟨_, h2, _⟩ := Lib.cutB_miss w ⟨#[47]⟩ g
    have h3 : cutB w = ByteArray.empty := h2
    rw [h3, tooth_empty (w := ByteArray.empty) rfl] at hb
    cases hb
  · obtain ⟨h1, h2⟩ := cut_at g
    have hi : i < w.data.toList.length := (List.getElem?_eq_some_iff.1 g1).1
    rw [h1] at a2
    rw [h2] at b2
    rw [Lib.extract_data] at a2
    rw [Lib.extract_to_end] at b2
    simp only [ByteArray.data_append, Array.toList_append]
    rw [a2, b2, Nat.sub_zero, List.drop_zero]
    have e := List.drop_eq_getElem_cons hi
    have e2 : w.data.toList[i] = 47 := (List.getElem?_eq_some_iff.1 g1).2
    rw [e2] at e
    rw [List.append_assoc]
    show w.data.toList.take i ++ (47 :: w.data.toList.drop (i + 1)) = _
    rw [← e, List.take_append_drop]
/-! ### The words' pairs -/
theorem i16_small {n : Int} (h : 8 ≤ n ∧ n ≤ 120) : IntKind.i16.wrap n = n := i16_id n (by omega)
theorem train_spec2 (k : Nat) (l : List SP) (hl : l.length ≤ 1048577) (hs : Shorts l) (hk : 1048577 < k) : spec_l03Train.f k l = some (trainB l) := by
  by_cases h : l.length ≤ 1048576
  · exact train_spec k l h hs (by omega)
  · have hn : ¬ (1 ≤ (l.length : Int) ∧ (l.length : Int) ≤ 4) := by omega
    unfold spec_l03Train.f trainB
    rw [inT_eq]
    simp only [Option.bind_some, decide_eq_true_eq]
    rw [if_neg hn, decide_eq_false hn]
    rfl
/-- What the reference makes of the words. -/
def finT (o : Option (List SP)) : List SP × Int := match o with
  | none => ([], 5)
  | some l => if trainB l = true then (l, 0) else ([], 5)
theorem word_at (ws : List ByteArray) (x : Int) (h0 : 0 ≤ x) (h1 : x < (ws.length : Int)) : rdOf ByteArray.empty ws x = ws[x.toNat]'(by omega) := by
  simp [rdOf, List.getD, List.getElem?_eq_getElem (show x.toNat < ws.length by omega)]
theorem read_rounds (ws : List ByteArray) (hw : ws.length ≤ 1048577) (hz : ∀ w ∈ ws, w.size ≤ 1048576) : ∀ (d k : Nat) (acc : List SP) (x : Int), 0 ≤ x → x + d = ws.length → acc.length = x.toNat → (∀ p ∈ acc, (8 ≤ p.f0 ∧ p.f0 ≤ 120) ∧ (8 ≤ p.f1 ∧ p.f1 ≤ 120)) → d + 3000000 < k →
    spec_ReadTrain.l0 k ws acc x = some (finT (goT (ws.drop x.toNat) acc)) := by
  intro d
  induction d with
  | zero =>
    intro k acc x h0 h1 ha hb hk
    obtain ⟨k, rfl⟩ : ∃ m, k = m + 1 := ⟨k - 1, by omega⟩
    simp only [spec_ReadTrain.l0]
    rw [if_neg (by omega), train_spec2 k acc (by omega) (fun p hp => by have := hb p hp; omega) (by omega), List.drop_eq_nil_of_le (by omega)]
    simp only [Option.bind_some, goT, finT]
    split <;> rfl
  | succ d ih =>
    intro k acc x h0 h1 ha hb hk
    obtain ⟨k, rfl⟩ : ∃ m, k = m + 1 := ⟨k - 1, by omega⟩
    have hx1 : x < (ws.length : Int) := by omega
    have hd := drop_word ws x h0 hx1
    have hwz : (rdOf ByteArray.empty ws x).size ≤ 1048576 := by
      rw [word_at ws x h0 hx1]
      exact hz _ (List.getElem_mem _)
    simp only [spec_ReadTrain.l0]
    rw [if_pos hx1, if_pos h0, hd]
    generalize rdOf ByteArray.empty ws x = w at *
    have hsp : spec_l01Split.f k w 47 = some (wordsB 47 w) := split_spec 47 w hwz k (by omega)
    rw [hsp]
    simp only [Option.bind_some, goT]
    rw [pair_words w]
    have hne := words_ne 47 w
    generalize wordsB 47 w = ps at *
    by_cases c : (ps.length : Int) = 2
    · rw [if_pos c]
      obtain ⟨a, b, rfl⟩ : ∃ a b, ps = [a, b] := by
        match ps, c with
        | [a, b], _ => exact ⟨a, b, rfl⟩
        | [], c => simp at c
        | [_], c => simp at c
        | _ :: _ :: _ :: _, c => simp at c; omega
      have ea : rdOf ByteArray.empty [a, b] 0 = a := rfl
      have eb : rdOf ByteArray.empty [a, b] 1 = b := rfl
      rw [if_pos (by simp), ea, num_spec a k (by omega), Option.bind_some, if_pos (by simp), eb, num_spec b k (by omega)]
      simp only [Option.bind_some, pairL, tooth_eq]
      rw [teethT_eq, teethT_eq]
      simp only [Option.bind_some, teethB, decide_eq_true_eq]
      by_cases c1 : (numP a).2 = true
      · by_cases c2 : (numP b).2 = true
        · by_cases c3 : 8 ≤ (numP a).1 ∧ (numP a).1 ≤ 120
          · by_cases c4 : 8 ≤ (numP b).1 ∧ (numP b).1 ≤ 120
            · rw [if_pos c1, if_pos c2, if_pos c3, if_pos c4, if_pos (by omega), if_pos ⟨c1, c3⟩, if_pos ⟨c2, c4⟩, wrd (by omega), i16_small c3, i16_small c4]
              simp only [Option.bind_some]
              refine ih k _ (x + 1) (by omega) (by omega) (by rw [List.length_append]; simp; omega) (fun p hp => ?_) (by omega)
              rw [List.mem_append, List.mem_singleton] at hp
              rcases hp with hp | rfl
              · exact hb p hp
              · exact ⟨c3, c4⟩
            · rw [if_pos c1, if_pos c2, if_pos c3, if_neg c4, if_pos ⟨c1, c3⟩, if_neg (fun x => c4 x.2)]
              rfl
          · rw [if_pos c1, if_pos c2, if_neg c3, if_neg (fun x => c3 x.2)]
            rfl
        · rw [if_pos c1, if_neg c2]
          by_cases c3 : 8 ≤ (numP a).1 ∧ (numP a).1 ≤ 120
          · rw [if_pos ⟨c1, c3⟩, if_neg (fun x => c2 x.1)]
            rfl
          · rw [if_neg (fun x => c3 x.2)]
            rfl
      · rw [if_neg c1, if_neg (fun x => c1 x.1)]
        rfl
    · rw [if_neg c]
      have : pairL ps = none := by
        match ps, c with
        | [a, b], c => exact absurd rfl c
        | [], _ => rfl
        | [_], _ => rfl
        | _ :: _ :: _ :: _, _ => rfl
      rw [this]
      rfl
theorem goT_facts : ∀ (ws : List ByteArray) (acc l : List SP), goT ws acc = some l → ∃ r, l = acc ++ r ∧ r.length = ws.length ∧ r.map (fun p => (pairS p).data.toList) = ws.map (·.data.toList) := by
  intro ws
  induction ws with
  | nil =>
    intro acc l h
    simp only [goT] at h
    obtain rfl := Option.some.inj h
    exact ⟨[], by simp, rfl, rfl⟩
  | cons w r ih =>
    intro acc l h
    simp only [goT] at h
    cases hp : pairW w with
    | none =>
      rw [hp] at h
      cases h
    | some p =>
      rw [hp] at h
      obtain ⟨q, rfl, h2, h3⟩ := ih _ _ h
      refine ⟨p :: q, by simp, by simp [h2], ?_⟩
      rw [List.map_cons, List.map_cons, h3, (pairW_facts hp).2]
theorem readTrain_both (k : Nat) (a0 : ByteArray) (hs : a0.size ≤ 1048576) (hk : 5000000 < k) : ∃ r, spec_ReadTrain.f k a0 = some r ∧ impl_ReadTrain.f a0 = some r ∧ r.1.length ≤ 4 := by
  have hwl := wordsB_le 32 a0
  have h32 : spec_l01Split.f k a0 32 = some (wordsB 32 a0) := split_spec 32 a0 hs k (by omega)
  have hrr := read_rounds (wordsB 32 a0) (by omega) (fun w hw => by have := splitB_small _ _ _ _ w hw; omega) (wordsB 32 a0).length k [] 0 (by omega) (by omega) rfl (by simp) (by omega)
  rw [show (0 : Int).toNat = 0 from rfl, List.drop_zero] at hrr
  unfold spec_ReadTrain.f impl_ReadTrain.f readT
  rw [h32, if_pos hs]
  simp only [Option.bind_some]
  rw [hrr]
  have hjw := join_words 32 a0.size a0 (Nat.le_refl _)
  have hne := words_ne 32 a0
  cases hg : goT (wordsB 32 a0) [] with
  | none => exact ⟨([], 5), rfl, rfl, Nat.zero_le _⟩
  | some l =>
    obtain ⟨q, e1, e2, e3⟩ := goT_facts _ _ _ hg
    rw [List.nil_append] at e1
    subst e1
    simp only [finT]
    unfold impl_TrainText.f impl_ValidTrain.f
    simp only [Option.bind_some]
    by_cases hv : trainB l = true
    · have h4 := trainB_len hv
      rw [if_pos hv, if_pos hv, if_pos h4.1, if_pos h4.2]
      simp only [Option.bind_some]
      rw [if_pos]
      · exact ⟨_, rfl, rfl, h4.2⟩
      · rw [ByteArray.toList_eq, ByteArray.toList_eq]
        unfold textT
        rw [e3, hjw]
    · rw [if_neg hv, if_neg hv]
      simp only [Option.bind_some]
      rw [if_neg]
      · exact ⟨([], 5), rfl, rfl, Nat.zero_le _⟩
      · intro e
        rw [ByteArray.toList_eq, ByteArray.toList_eq] at e
        have e0 : a0.data.toList = [] := e.symm
        rw [words_miss (c := 32) (ib_miss (fun k => by rw [e0]; simp))] at e3 e2
        cases l with
        | nil => simp at e2
        | cons p r =>
          rw [List.map_cons, List.map_cons, e0] at e3
          have e4 := congrArg List.length (List.cons.inj e3).1
          unfold pairS at e4
          simp at e4
end Go.Proofs.YtdgillfbdlmloaaDoor.Core
