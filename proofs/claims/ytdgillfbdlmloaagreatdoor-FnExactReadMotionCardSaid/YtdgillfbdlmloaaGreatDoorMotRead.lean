/- The motion that a text spells: both texts read the same. -/
import Derived.Test.YtdgillfbdlmloaaGreatDoorDecCore
import Derived.Test.YtdgillfbdlmloaaGreatDoorStackRead
import Derived.Test.YtdgillfbdlmloaaGreatDoorMotE
import Derived.Test.YtdgillfbdlmloaaGreatDoorReadM
import Derived.Test.YtdgillfbdlmloaaGreatDoorMotR
import Derived.Test.YtdgillfbdlmloaaGreatDoorPx8
namespace Go.Proofs.YtdgillfbdlmloaaGreatDoor.Core
open Go.RowKit Go.Proofs.YtdgillfbdlmloaaGreatDoor.P Go.Proofs.YtdgillfbdlmloaaGreatDoorW.PrintWords Go.Proofs.YtdgillfbdlmloaaGreatDoorW.PrintMore
set_option linter.unusedSimpArgs false
/-! ### One word -/
def late4 : List UInt8 := [108, 97, 116, 101]
def even4 : List UInt8 := [101, 118, 101, 110]
theorem pre_facts (t : ByteArray) : hasL t = decide (t.data.toList.take 4 = late4) ∧ (hasL t = true → (preL t).data.toList = t.data.toList.drop 4 ∧ t.data.toList = late4 ++ t.data.toList.drop 4) := by
  have h1 : hasL t = decide (t.data.toList.take 4 = late4) := by
    unfold hasL
    rw [← Lib.hasPrefix_of_take]
    show (decide (4 ≤ t.data.toList.length) && (t.data.toList.take 4 == late4)) = _
    by_cases c : t.data.toList.take 4 = late4
    · have h4 : 4 ≤ t.data.toList.length := by
        have := congrArg List.length c
        rw [List.length_take] at this
        have e : late4.length = 4 := rfl
        omega
      rw [c, decide_eq_true h4]
      rfl
    · rw [decide_eq_false c, Bool.and_eq_false_iff]
      exact .inr (beq_eq_false_iff_ne.mpr c)
  refine ⟨h1, fun h => ?_⟩
  constructor
  · have h' : Lib.hasPrefix t.data.toList [108, 97, 116, 101] = true := h
    unfold preL Lib.trimPrefix
    rw [if_pos h']
    rfl
  · rw [h1, decide_eq_true_eq] at h
    rw [← h, List.take_append_drop]
theorem dec_empty {t : ByteArray} (h : t.data.toList = []) : dec64 t = none := by
  unfold dec64 i64P
  rw [h]
  rfl
theorem num_small {t : ByteArray} : dec64 t = none ∨ (∃ v, dec64 t = some v ∧ ¬ (0 ≤ v ∧ v ≤ 999)) ∨ ∃ v, dec64 t = some v ∧ (0 ≤ v ∧ v ≤ 999) ∧ numP t = (v, true) := by
  cases h : dec64 t with
  | none => exact .inl rfl
  | some v =>
    by_cases c : 0 ≤ v ∧ v ≤ 999
    · exact .inr (.inr ⟨v, rfl, c, dec64_num h c.1 (by omega)⟩)
    · exact .inr (.inl ⟨v, rfl, c⟩)
/-- What the reference makes of a word's joint. -/
def outJ : Option SJ → Int × Int × Bool
  | none => (0, 0, false)
  | some p => (p.f0, p.f1, true)
theorem joint_spec (k : Nat) (hk : 30 < k) (t : ByteArray) : spec_l02Joint.f k t = some (outJ (jointW t)) := by
  obtain ⟨k, rfl⟩ : ∃ m, k = m + 1 := ⟨k - 1, by omega⟩
  obtain ⟨p1, p2⟩ := pre_facts t
  have hl := ba_len t
  unfold spec_l02Joint.f jointW
  by_cases he : t.toList = ([101, 118, 101, 110] : List UInt8)
  · rw [if_pos he, if_pos he]
    rfl
  · rw [if_neg he, if_neg he]
    by_cases h5 : (t.size : Int) < 5
    · rw [if_pos h5]
      simp only [spec_l02Joint.j0, if_true]
      by_cases hh : hasL t = true
      · obtain ⟨e1, e2⟩ := p2 hh
        have : (preL t).data.toList = [] := by
          rw [e1]
          exact List.drop_eq_nil_of_le (by omega)
        rw [if_pos hh, dec_empty this]
        rfl
      · rw [if_neg hh]
        rfl
    · rw [if_neg h5, if_pos (by omega), if_pos (by omega)]
      have hx : (t.extract 0 4).toList = t.data.toList.take 4 := by
        rw [ByteArray.toList_eq, Lib.extract_data]
        simp
      have hy : t.extract 4 t.size = ⟨(t.data.toList.drop 4).toArray⟩ := by
        apply ba_inj
        rw [Lib.extract_to_end]
      simp only [spec_l02Joint.j0]
      by_cases hh : hasL t = true
      · obtain ⟨e1, e2⟩ := p2 hh
        have htk : t.data.toList.take 4 = late4 := by
          rw [p1, decide_eq_true_eq] at hh
          exact hh
        have hpe : t.extract 4 t.size = preL t := by
          apply ba_inj
          rw [hy, e1]
        have hb : ((t.extract 0 4).toList != ([108, 97, 116, 101] : List UInt8)) = false := by
          rw [hx, htk]
          rfl
        rw [hb, if_neg (by decide), if_pos (by omega), hpe, num_spec (preL t) k (by omega), if_pos hh]
        simp only [Option.bind_some]
        rcases num_small (t := preL t) with h | ⟨v, h, hc⟩ | ⟨v, h, hc, hn⟩
        · have hn : ¬ (numP (preL t)).2 = true := fun hn => by
            have := (num_dec64 hn).1
            rw [h] at this
            cases this
          rw [if_neg hn, h]
          rfl
        · rw [h, Option.bind_some, if_neg hc]
          by_cases hn : (numP (preL t)).2 = true
          · obtain ⟨a, b, _⟩ := num_dec64 hn
            rw [h] at a
            have := Option.some.inj a
            rw [if_pos hn, if_pos (by omega)]
            rfl
          · rw [if_neg hn]
            rfl
        · rw [h, hn, Option.bind_some, if_pos hc, if_pos rfl, if_neg (show ¬ v ≥ 1000 by omega), i16_id v (by omega)]
          rfl
      · have hb : ((t.extract 0 4).toList != ([108, 97, 116, 101] : List UInt8)) = true := by
          rw [hx]
          rw [p1, decide_eq_true_eq] at hh
          exact bne_iff_ne.mpr hh
        rw [hb, if_pos rfl, if_neg hh]
        rfl
theorem go_spec (k : Nat) (hk : 30 < k) : ∀ (r : List ByteArray) (acc : List SJ), goR k r acc = some (goM r acc) := by
  intro r
  induction r with
  | nil => exact fun acc => rfl
  | cons t r ih =>
    intro acc
    unfold goR goM
    rw [joint_spec k hk t, Option.bind_some]
    cases jointW t with
    | none => rfl
    | some p => exact ih _
/-- What a word's joint tells. -/
theorem jointW_facts {t : ByteArray} {p : SJ} (h : jointW t = some p) : (okS p.f0 p.f1 = true ∧ okJ p.f0 p.f1 = true) ∧ (p.f0 = 0 → t.data.toList = even4) ∧ (p.f0 ≠ 0 → t.data.toList = late4 ++ (decS (wrap64 p.f1)).data.toList) := by
  unfold jointW at h
  split at h
  · rename_i he
    obtain rfl := Option.some.inj h
    rw [ByteArray.toList_eq] at he
    exact ⟨⟨by show okS 0 0 = true; unfold okS; rw [wrd (n := 0) (by omega)]; rfl, rfl⟩, fun _ => he, fun h => absurd rfl h⟩
  · split at h
    · rename_i hh
      replace h := Option.bind_eq_some_iff.mp h
      obtain ⟨n, hn, h⟩ := h
      split at h
      · rename_i hc
        obtain rfl := Option.some.inj h
        obtain ⟨_, p2⟩ := pre_facts t
        obtain ⟨e1, e2⟩ := p2 hh
        refine ⟨⟨?_, ?_⟩, fun h => absurd h (show ¬ (1 : Int) = 0 by decide), fun _ => ?_⟩
        · show okS 1 n = true
          unfold okS
          rw [wrd (n := n) (by omega), wrd (n := 1) (by omega)]
          simp
          omega
        · show okJ 1 n = true
          unfold okJ
          simp
          omega
        · show t.data.toList = late4 ++ (decS (wrap64 n)).data.toList
          rw [wrd (by omega), dec64_text hn, e1]
          exact e2
      · cases h
    · cases h
/-! ### The words' joints -/
/-- The words, each behind a blank. -/
def tailW (r : List ByteArray) : List UInt8 := r.flatMap fun t => 32 :: t.data.toList
theorem tailW_cons (t : ByteArray) (r : List ByteArray) : tailW (t :: r) = 32 :: t.data.toList ++ tailW r := by simp [tailW]
theorem join_tail : ∀ (r : List ByteArray) (w : ByteArray), Lib.join ((w :: r).map (·.data.toList)) [32] = w.data.toList ++ tailW r := by
  intro r
  induction r with
  | nil =>
    intro w
    rw [List.map_cons, List.map_nil, Lib.join_one]
    simp [tailW]
  | cons t r ih =>
    intro w
    have h := ih t
    rw [List.map_cons] at h
    rw [List.map_cons, List.map_cons, join_cons_cons, h, tailW_cons]
    simp
theorem goM_facts : ∀ (r : List ByteArray) (acc l : List SJ), goM r acc = some l → ∃ js, l = acc ++ js ∧ js.length = r.length ∧ (∀ p ∈ js, okS p.f0 p.f1 = true ∧ okJ p.f0 p.f1 = true) ∧
    ∀ o : ByteArray, o.size + (tailW r).length ≤ 9223372036854775807 → ∃ t, motI js o = some t ∧ t.data.toList = o.data.toList ++ tailW r := by
  intro r
  induction r with
  | nil =>
    intro acc l h
    simp only [goM] at h
    obtain rfl := Option.some.inj h
    exact ⟨[], by simp, rfl, by simp, fun o _ => ⟨o, rfl, by simp [tailW]⟩⟩
  | cons w r ih =>
    intro acc l h
    simp only [goM] at h
    cases hj : jointW w with
    | none =>
      rw [hj] at h
      cases h
    | some p =>
      rw [hj] at h
      obtain ⟨js, rfl, h2, h3, h4⟩ := ih _ _ h
      obtain ⟨ok, f1, f2⟩ := jointW_facts hj
      refine ⟨p :: js, by simp, by simp [h2], fun q hq => ?_, fun o ho => ?_⟩
      · rw [List.mem_cons] at hq
        rcases hq with rfl | hq
        · exact ok
        · exact h3 q hq
      · rw [tailW_cons] at ho ⊢
        have hlo := ba_len o
        unfold motI
        by_cases c : p.f0 = 0
        · have e := f1 c
          rw [e] at ho ⊢
          have hlen : even4.length = 4 := rfl
          simp only [List.cons_append, List.length_cons, List.length_append] at ho
          rw [if_pos c, if_pos (by omega)]
          obtain ⟨t, t1, t2⟩ := h4 (o ++ ⟨#[32, 101, 118, 101, 110]⟩) (by
            rw [ByteArray.size_append]
            show o.size + 5 + _ ≤ _
            omega)
          refine ⟨t, t1, ?_⟩
          rw [t2, ByteArray.data_append, Array.toList_append, List.append_assoc]
          rfl
        · have e := f2 c
          have hd := ba_len (decS (wrap64 p.f1))
          rw [e] at ho ⊢
          have hlen : late4.length = 4 := rfl
          simp only [List.cons_append, List.length_cons, List.length_append] at ho
          rw [if_neg c, if_pos (by omega), if_pos (by omega)]
          obtain ⟨t, t1, t2⟩ := h4 (o ++ (⟨#[32, 108, 97, 116, 101]⟩ ++ decS (wrap64 p.f1))) (by
            rw [ByteArray.size_append, ByteArray.size_append]
            show o.size + (5 + (decS (wrap64 p.f1)).size) + _ ≤ _
            omega)
          refine ⟨t, t1, ?_⟩
          rw [t2, ByteArray.data_append, ByteArray.data_append, Array.toList_append, Array.toList_append]
          simp only [List.append_assoc, List.cons_append]
          rfl
/-! ### The stack's word -/
theorem code0 {w : ByteArray} {l : List Int} (h : impl_ReadStack.f w = some (l, 0)) : w.data.toList ≠ [] ∧ ∃ t, impl_StackText.f l = some t ∧ t.data.toList = w.data.toList := by
  unfold impl_ReadStack.f readS at h
  split at h
  · split at h
    · rename_i hall
      replace h := Option.bind_eq_some_iff.mp h
      obtain ⟨t, ht, h⟩ := h
      split at h
      · rename_i he
        injection h with h
        obtain ⟨rfl, _⟩ := Prod.mk.inj h
        refine ⟨fun h0 => ?_, t, ht, by rw [ByteArray.toList_eq, ByteArray.toList_eq] at he; exact he⟩
        have hw1 := words_empty (c := 58) h0
        rw [hw1] at hall
        have := List.all_eq_true.1 hall w (by simp)
        rw [pu8_empty h0] at this
        cases this
      · injection h with h
        exact absurd (Prod.mk.inj h).2 (by decide)
    · injection h with h
      exact absurd (Prod.mk.inj h).2 (by decide)
  · cases h
theorem validM {l : List Int} {js : List SJ} (hj : ∀ p ∈ js, okS p.f0 p.f1 = true ∧ okJ p.f0 p.f1 = true) : impl_ValidMotion.f l js = some (validB l && decide ((js.length : Int) = wrap64 ((l.length : Int) - 1))) := by
  unfold impl_ValidMotion.f impl_ValidStack.f impl_Joint.f
  have ha : (js.any fun j => !okJ j.f0 j.f1) = false := by
    rw [List.any_eq_false]
    intro p hp
    rw [(hj p hp).2]
    decide
  simp only [Option.bind_some]
  by_cases h1 : validB l = true
  · by_cases h2 : (js.length : Int) = wrap64 ((l.length : Int) - 1)
    · rw [if_pos h1, if_pos h2, h1, decide_eq_true h2, ha]
      rfl
    · rw [if_pos h1, if_neg h2, h1, decide_eq_false h2]
      rfl
  · rw [if_neg h1, Bool.eq_false_iff.mpr h1]
    rfl
theorem allS {js : List SJ} (hj : ∀ p ∈ js, okS p.f0 p.f1 = true ∧ okJ p.f0 p.f1 = true) : (js.all fun j => okS j.f0 j.f1) = true := List.all_eq_true.2 fun p hp => (hj p hp).1
theorem readMotion_both (k : Nat) (a0 : ByteArray) (hs : a0.size ≤ 1048576) (hk : 5000000 < k) : ∃ r : List Int × List SJ × Int, spec_ReadMotion.f k a0 = some r ∧ impl_ReadMotion.f a0 = some r ∧ r.1.length ≤ 8 ∧ r.2.1.length ≤ 8 := by
  have hwl := wordsB_le 32 a0
  have h32 : spec_l01Split.f k a0 32 = some (wordsB 32 a0) := split_spec 32 a0 hs k (by omega)
  have hjw := join_words 32 a0.size a0 (Nat.le_refl _)
  have hsm : ∀ w ∈ wordsB 32 a0, w.size ≤ 1048576 := fun w hw => by
    have := splitB_small _ _ _ _ w hw
    omega
  have hmt : a0.data.toList = [] → wordsB 32 a0 = [a0] := fun h => words_empty h
  have ha0 := ba_len a0
  unfold spec_ReadMotion.f impl_ReadMotion.f readM
  rw [if_pos (by omega), h32, if_pos hs]
  simp only [Option.bind_some]
  generalize hws : wordsB 32 a0 = ws at *
  cases ws with
  | nil =>
    have := wordsB_len 32 a0
    rw [hws] at this
    simp at this
  | cons w r =>
    simp only
    have hrl : r.length ≤ 1048576 := by
      simp at hwl
      omega
    rw [if_pos hrl]
    obtain ⟨⟨sl, code⟩, s1, s2, s3⟩ := readStack_both k w (hsm w (by simp)) (by omega)
    have s3' : sl.length ≤ 8 := s3
    rw [s1, s2]
    simp only [Option.bind_some]
    by_cases hc : code = 0
    · subst hc
      rw [if_pos rfl, if_pos rfl, go_spec k (by omega), Option.bind_some]
      obtain ⟨w0, t, t1, t2⟩ := code0 s2
      cases hg : goM r [] with
      | none => exact ⟨([], [], 5), rfl, rfl, Nat.zero_le _, Nat.zero_le _⟩
      | some l =>
        obtain ⟨js, e0, e1, e2, e3⟩ := goM_facts r [] l hg
        rw [List.nil_append] at e0
        subst e0
        rw [join_tail] at hjw
        have hlen : w.size + (tailW r).length = a0.size := by
          have := congrArg List.length hjw
          rw [List.length_append, ba_len, ba_len] at this
          exact this
        unfold endR endM
        have hv : spec_ValidStack.f k sl = some (validB sl) := by
          unfold spec_ValidStack.f
          rw [ok_spec k sl (by omega) (by omega)]
          rfl
        rw [hv]
        simp only [Option.bind_some]
        unfold impl_MotionText.f
        rw [validM e2, allS e2, Bool.and_true]
        simp only [Option.bind_some]
        by_cases hok : (validB sl && decide ((l.length : Int) = wrap64 ((sl.length : Int) - 1))) = true
        · rw [if_pos hok, if_pos hok, t1]
          simp only [Option.bind_some]
          have htz : t.size = w.size := by rw [← ba_len, ← ba_len, t2]
          obtain ⟨u, u1, u2⟩ := e3 t (by omega)
          rw [u1]
          simp only [Option.bind_some]
          rw [if_pos (by rw [ByteArray.toList_eq, ByteArray.toList_eq, u2, t2, hjw])]
          rw [Bool.and_eq_true, decide_eq_true_eq, wrd (by omega)] at hok
          exact ⟨_, rfl, rfl, s3', by simp only; omega⟩
        · rw [if_neg hok, if_neg hok]
          simp only [Option.bind_some]
          rw [if_neg (fun e => ?_)]
          · exact ⟨([], [], 5), rfl, rfl, Nat.zero_le _, Nat.zero_le _⟩
          · have h0 := empty_ne e
            have := hmt h0
            obtain ⟨rfl, _⟩ := List.cons.inj this
            exact w0 h0
    · rw [if_neg hc, if_neg hc]
      exact ⟨([], [], 5), rfl, rfl, Nat.zero_le _, Nat.zero_le _⟩
end Go.Proofs.YtdgillfbdlmloaaGreatDoor.Core
