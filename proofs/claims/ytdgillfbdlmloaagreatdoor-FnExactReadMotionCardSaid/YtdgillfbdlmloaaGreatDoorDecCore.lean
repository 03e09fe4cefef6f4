/- Words between separators, joined words, and decimal numerals, in plain lists. -/
import Derived.Test.YtdgillfbdlmloaaGreatDoorSplitS
import Derived.Lib.ParseIntBCases
import Derived.Lib.ItoaNum
import Derived.Lib.IndexLaws
import Derived.Test.YtdgillfbdlmloaaGreatDoorPx1
import Derived.Test.YtdgillfbdlmloaaGreatDoorReadD
namespace Go.Proofs.YtdgillfbdlmloaaGreatDoor.Core
open Go.RowKit Go.Proofs.YtdgillfbdlmloaaGreatDoor.P Go.Proofs.YtdgillfbdlmloaaGreatDoorW.PrintWords Go.Proofs.YtdgillfbdlmloaaGreatDoorW.PrintMore
set_option linter.unusedSimpArgs false
theorem wrd {n : Int} (h : -9223372036854775808 ≤ n ∧ n ≤ 9223372036854775807) : wrap64 n = n := Go.IntWalk.wrap64_in n h
theorem ba_inj {a b : ByteArray} (h : a.data.toList = b.data.toList) : a = b := ByteArray.ext (Array.toList_inj.mp h)
theorem ba_toList_inj {a b : ByteArray} (h : a.toList = b.toList) : a = b := by
  rw [ByteArray.toList_eq, ByteArray.toList_eq] at h
  exact ba_inj h
theorem ba_len (s : ByteArray) : s.data.toList.length = s.size := by
  rw [Array.length_toList]
  rfl
/-! ### Where a byte stands first -/
theorem ib_hit {l : List UInt8} {c : UInt8} {o : Nat} (h : l[o]? = some c) (hn : ∀ k, k < o → l[k]? ≠ some c) : Lib.index l [c] = o := by
  rw [Lib.index_one]
  have hge := Lib.indexByte_ge l c
  by_cases hm : Lib.indexByte l c = -1
  · exact absurd h (Lib.indexByte_none hm o)
  · obtain ⟨j, hj⟩ : ∃ j : Nat, Lib.indexByte l c = j := ⟨(Lib.indexByte l c).toNat, by omega⟩
    obtain ⟨h1, h2⟩ := Lib.indexByte_some hj
    rcases Nat.lt_trichotomy j o with h3 | h3 | h3
    · exact absurd h1 (hn j h3)
    · rw [hj, h3]
    · exact absurd h (h2 o h3)
theorem ib_miss {l : List UInt8} {c : UInt8} (hn : ∀ k : Nat, l[k]? ≠ some c) : Lib.index l [c] = -1 := by
  rw [Lib.index_one]
  have hge := Lib.indexByte_ge l c
  by_cases hm : Lib.indexByte l c = -1
  · exact hm
  · obtain ⟨j, hj⟩ : ∃ j : Nat, Lib.indexByte l c = j := ⟨(Lib.indexByte l c).toNat, by omega⟩
    exact absurd (Lib.indexByte_some hj).1 (hn j)
theorem words_miss {c : UInt8} {s : ByteArray} (h : Lib.index s.data.toList [c] = -1) : wordsB c s = [s] := by
  unfold wordsB
  rw [Lib.countB_miss s ⟨#[c]⟩ h]
  rfl
theorem words_hit {c : UInt8} {s : ByteArray} {i : Nat} (h : Lib.index s.data.toList [c] = i) : wordsB c s = s.extract 0 i :: wordsB c (s.extract (i + 1) s.size) := by
  unfold wordsB
  have hc := Lib.countB_hit s ⟨#[c]⟩ i (Nat.le_refl 1) h
  rw [hc, Nat.add_comm 1, Lib.splitB_hit ⟨#[c]⟩ 0 _ s i h]
  rfl
theorem index_cases (l : List UInt8) (c : UInt8) : (Lib.index l [c] = -1 ∧ ∀ k : Nat, l[k]? ≠ some c) ∨ ∃ i : Nat, Lib.index l [c] = i ∧ l[i]? = some c ∧ ∀ k, k < i → l[k]? ≠ some c := by
  rw [Lib.index_one]
  have hge := Lib.indexByte_ge l c
  by_cases hm : Lib.indexByte l c = -1
  · exact .inl ⟨hm, fun k => Lib.indexByte_none hm k⟩
  · obtain ⟨j, hj⟩ : ∃ j : Nat, Lib.indexByte l c = j := ⟨(Lib.indexByte l c).toNat, by omega⟩
    exact .inr ⟨j, hj, Lib.indexByte_some hj⟩
/-! ### Joined words -/
theorem join_cons_cons (x y : List UInt8) (r : List (List UInt8)) (c : UInt8) : Lib.join (x :: y :: r) [c] = x ++ c :: Lib.join (y :: r) [c] := by
  rw [Lib.join_cons, Lib.join_cons]
  simp [Lib.joinTail]
theorem words_ne (c : UInt8) (s : ByteArray) : ∃ y r, wordsB c s = y :: r := by
  have := wordsB_len c s
  cases h : wordsB c s with
  | nil =>
    rw [h] at this
    simp at this
  | cons y r => exact ⟨y, r, rfl⟩
theorem join_words (c : UInt8) : ∀ (n : Nat) (s : ByteArray), s.size ≤ n → Lib.join ((wordsB c s).map (·.data.toList)) [c] = s.data.toList := by
  intro n
  induction n with
  | zero =>
    intro s hs
    have hl := ba_len s
    have he : s.data.toList = [] := List.length_eq_zero_iff.mp (by omega)
    rw [words_miss (ib_miss (fun k => by rw [he]; simp)), List.map_cons, List.map_nil, Lib.join_one]
  | succ n ih =>
    intro s hs
    have hl := ba_len s
    rcases index_cases s.data.toList c with ⟨h, _⟩ | ⟨i, h, h1, _⟩
    · rw [words_miss h, List.map_cons, List.map_nil, Lib.join_one]
    · have hi : i < s.data.toList.length := (List.getElem?_eq_some_iff.1 h1).1
      have hw := words_hit h
      obtain ⟨y, r, hy⟩ := words_ne c (s.extract (i + 1) s.size)
      have hI := ih (s.extract (i + 1) s.size) (by rw [ByteArray.size_extract]; omega)
      rw [hy, List.map_cons, Lib.extract_to_end] at hI
      rw [hw, hy, List.map_cons, List.map_cons, join_cons_cons, hI, Lib.extract_data, Nat.sub_zero, List.drop_zero]
      have e := List.drop_eq_getElem_cons hi
      have e2 : s.data.toList[i] = c := (List.getElem?_eq_some_iff.1 h1).2
      rw [e2] at e
      rw [← e, List.take_append_drop]
theorem words_join (c : UInt8) : ∀ (xs : List (List UInt8)) (s : ByteArray), xs ≠ [] → (∀ x ∈ xs, c ∉ x) → s.data.toList = Lib.join xs [c] → (wordsB c s).map (·.data.toList) = xs := by
  intro xs
  induction xs with
  | nil => exact fun _ h => absurd rfl h
  | cons x r ih =>
    intro s _ hx hs
    cases r with
    | nil =>
      rw [Lib.join_one] at hs
      rw [words_miss (ib_miss (fun k hk => hx x (by simp) (by rw [← hs]; exact List.mem_of_getElem? hk))), List.map_cons, List.map_nil, hs]
    | cons y r =>
      rw [join_cons_cons] at hs
      have h : Lib.index s.data.toList [c] = (x.length : Nat) := ib_hit (by rw [hs]; simp) (fun k hk e => by
        rw [hs, List.getElem?_append_left hk] at e
        exact hx x (by simp) (List.mem_of_getElem? e))
      rw [words_hit h, List.map_cons, ih (s.extract (x.length + 1) s.size) (by simp) (fun z hz => hx z (List.mem_cons_of_mem x hz)) (by rw [Lib.extract_to_end, hs]; simp), Lib.extract_data, hs]
      simp
/-! ### Numerals -/
def isDig (c : UInt8) : Bool := decide (48 ≤ c.toNat ∧ c.toNat ≤ 57)
theorem isDig_iff (c : UInt8) : isDig c = true ↔ 48 ≤ c.toNat ∧ c.toNat ≤ 57 := by
  unfold isDig
  exact decide_eq_true_iff
def digW : List UInt8 → Nat → Nat
  | [], acc => acc
  | c :: r, acc => digW r (10 * acc + (c.toNat - 48))
def digV (acc : Nat) (l : List UInt8) : Nat := digW l acc
theorem digV_nil (acc : Nat) : digV acc [] = acc := by
  unfold digV
  simp only [digW]
theorem digV_cons (acc : Nat) (c : UInt8) (r : List UInt8) : digV acc (c :: r) = digV (10 * acc + (c.toNat - 48)) r := by
  unfold digV
  simp only [digW]
theorem digV_ge : ∀ (l : List UInt8) (acc : Nat), acc ≤ digV acc l := by
  intro l
  induction l with
  | nil =>
    intro acc
    simp [digV_nil, digV_cons]
  | cons c r ih =>
    intro acc
    have := ih (10 * acc + (c.toNat - 48))
    simp only [digV_cons, digV_nil]
    omega
theorem digV_append (l : List UInt8) (c : UInt8) : ∀ acc, digV acc (l ++ [c]) = 10 * digV acc l + (c.toNat - 48) := by
  induction l with
  | nil =>
    intro acc
    simp [digV_nil, digV_cons]
  | cons d r ih =>
    intro acc
    simp only [List.cons_append, digV_cons]
    exact ih _
theorem digV_lt (l : List UInt8) (hd : l.all isDig = true) : ∀ acc, digV acc l < (acc + 1) * 10 ^ l.length := by
  induction l with
  | nil =>
    intro acc
    simp [digV_nil, digV_cons]
  | cons c r ih =>
    intro acc
    rw [List.all_cons, Bool.and_eq_true] at hd
    have h1 := (isDig_iff c).1 hd.1
    have h2 := ih hd.2 (10 * acc + (c.toNat - 48))
    have h3 : 10 * acc + (c.toNat - 48) + 1 ≤ (acc + 1) * 10 := by omega
    have h4 := Nat.mul_le_mul_right (10 ^ r.length) h3
    simp only [digV_cons, List.length_cons]
    rw [Nat.pow_succ, Nat.mul_comm (10 ^ r.length) 10, ← Nat.mul_assoc]
    omega
/-- A numeral as 'Decimal' writes it, of nine digits at most. -/
def canonB (l : List UInt8) : Bool := decide (1 ≤ l.length ∧ l.length ≤ 9) && (l.all isDig && !(l.head? == some 48 && decide (1 < l.length)))
theorem u8_of (n : Nat) (h : n < 256) : (UInt8.ofNat n).toNat = n := by
  rw [UInt8.toNat_ofNat']
  omega
theorem u8_eq {c : UInt8} {n : Nat} (h : c.toNat = n) : c = UInt8.ofNat n := by
  rw [← h]
  exact (UInt8.ofNat_toNat).symm
theorem dec_digV (l : List UInt8) (hd : l.all isDig = true) : ∀ acc, 1 ≤ acc → Lib.decDigits (digV acc l) = Lib.decDigits acc ++ l := by
  induction l with
  | nil =>
    intro acc _
    simp only [digV_nil, List.append_nil]
  | cons c r ih =>
    intro acc ha
    rw [List.all_cons, Bool.and_eq_true] at hd
    have h1 := (isDig_iff c).1 hd.1
    simp only [digV_cons, digV_nil]
    rw [ih hd.2 _ (by omega), Lib.decDigits.eq_def (10 * acc + (c.toNat - 48)), dif_neg (by omega), show (10 * acc + (c.toNat - 48)) / 10 = acc by omega, show 48 + (10 * acc + (c.toNat - 48)) % 10 = c.toNat by omega, UInt8.ofNat_toNat, List.append_assoc]
    rfl
theorem canon_dec {l : List UInt8} (h : canonB l = true) : Lib.decDigits (digV 0 l) = l := by
  unfold canonB at h
  simp only [Bool.and_eq_true, decide_eq_true_eq, Bool.not_eq_true', Bool.and_eq_false_iff, beq_eq_false_iff_ne, decide_eq_false_iff_not] at h
  obtain ⟨⟨h1, _⟩, hd, hz⟩ := h
  cases l with
  | nil => simp at h1
  | cons c r =>
    have hd2 := hd
    rw [List.all_cons, Bool.and_eq_true] at hd
    have hc := (isDig_iff c).1 hd.1
    by_cases h48 : c.toNat = 48
    · have hc48 : c = 48 := u8_eq h48
      rcases hz with hz | hz
      · exact absurd (by rw [hc48]; rfl) hz
      · have : r = [] := by
          cases r with
          | nil => rfl
          | cons _ _ => simp at hz
        subst this
        simp only [digV_cons, digV_nil]
        rw [Lib.decDigits_one (by omega), h48, hc48]
        simp
    · simp only [digV_cons, digV_nil]
      rw [dec_digV r hd.2 _ (by omega), Lib.decDigits_one (by omega), show 48 + (10 * 0 + (c.toNat - 48)) = c.toNat by omega, UInt8.ofNat_toNat]
      rfl
theorem dec_facts : ∀ (m n : Nat), n ≤ m → (Lib.decDigits n).all isDig = true ∧ digV 0 (Lib.decDigits n) = n ∧ (1 ≤ n → (Lib.decDigits n).head? ≠ some 48) ∧ 1 ≤ (Lib.decDigits n).length := by
  intro m
  induction m with
  | zero =>
    intro n hn
    obtain rfl : n = 0 := by omega
    rw [Lib.decDigits_one (by omega)]
    exact ⟨by decide, by decide, fun h => by omega, by decide⟩
  | succ m ih =>
    intro n hn
    by_cases h : n < 10
    · rw [Lib.decDigits_one h]
      have hu := u8_of (48 + n) (by omega)
      refine ⟨?_, ?_, fun h1 => ?_, by simp⟩
      · rw [List.all_cons, List.all_nil, Bool.and_true]
        exact (isDig_iff _).2 (by rw [hu]; omega)
      · simp only [digV_cons, digV_nil]
        rw [hu]
        omega
      · intro e
        rw [List.head?_cons] at e
        have e2 := congrArg UInt8.toNat (Option.some.inj e)
        rw [hu] at e2
        have : (48 : UInt8).toNat = 48 := rfl
        omega
    · obtain ⟨i1, i2, i3, i4⟩ := ih (n / 10) (by omega)
      have hu := u8_of (48 + n % 10) (by omega)
      rw [Lib.decDigits.eq_def n, dif_neg h]
      refine ⟨?_, ?_, fun _ => ?_, by rw [List.length_append]; omega⟩
      · rw [List.all_append, i1, Bool.true_and, List.all_cons, List.all_nil, Bool.and_true]
        exact (isDig_iff _).2 (by rw [hu]; omega)
      · rw [digV_append, i2, hu]
        omega
      · have := i3 (by omega)
        cases hdd : Lib.decDigits (n / 10) with
        | nil =>
          rw [hdd] at i4
          simp at i4
        | cons c r =>
          rw [hdd] at this
          exact this
theorem dec_len : ∀ (k n : Nat), n < 10 ^ (k + 1) → (Lib.decDigits n).length ≤ k + 1 := by
  intro k
  induction k with
  | zero =>
    intro n hn
    rw [Lib.decDigits_one (by omega)]
    simp
  | succ k ih =>
    intro n hn
    by_cases h : n < 10
    · rw [Lib.decDigits_one h]
      simp
    · rw [Lib.decDigits.eq_def n, dif_neg h, List.length_append]
      have := ih (n / 10) (by rw [Nat.pow_succ] at hn; omega)
      simp
      omega
theorem dec_canon {n : Nat} (h : n < 1000000000) : canonB (Lib.decDigits n) = true ∧ digV 0 (Lib.decDigits n) = n := by
  obtain ⟨h1, h2, h3, h4⟩ := dec_facts n n (Nat.le_refl _)
  have h5 := dec_len 8 n (by omega)
  refine ⟨?_, h2⟩
  unfold canonB
  rw [h1, decide_eq_true ⟨h4, h5⟩, Bool.true_and, Bool.true_and, Bool.not_eq_true', Bool.and_eq_false_iff]
  by_cases hz : n = 0
  · right
    rw [hz, Lib.decDigits_one (by omega)]
    rfl
  · left
    rw [beq_eq_false_iff_ne]
    exact h3 (by omega)
theorem dec_free {c : UInt8} (hc : isDig c = false) (n : Nat) : c ∉ Lib.decDigits n := fun h => by
  have := List.all_eq_true.1 (dec_facts n n (Nat.le_refl _)).1 c h
  rw [hc] at this
  cases this
/-- What strconv.ParseUint makes of a numeral. -/
theorem parseM (M : Nat) (hM : M ≤ 1844674407370955160) : ∀ (l : List UInt8) (acc : Nat), l.all isDig = true → digV acc l ≤ M → Lib.parseUintM M acc l = .ok (digV acc l) := by
  intro l
  induction l with
  | nil =>
    intro acc _ _
    simp only [digV_nil, Lib.parseUintM]
  | cons c r ih =>
    intro acc hd hv
    rw [List.all_cons, Bool.and_eq_true] at hd
    have h1 := (isDig_iff c).1 hd.1
    have h2 := digV_ge r (10 * acc + (c.toNat - 48))
    simp only [digV_cons, digV_nil] at hv ⊢
    unfold Lib.parseUintM
    rw [if_pos h1, if_neg (by omega), if_neg (by omega), show acc * 10 + (c.toNat - 48) = 10 * acc + (c.toNat - 48) by omega]
    exact ih _ hd.2 hv
end Go.Proofs.YtdgillfbdlmloaaGreatDoor.Core
/- The reference's split and its numbers: what they come to. -/
namespace Go.Proofs.YtdgillfbdlmloaaGreatDoor.Core
open Go.RowKit Go.Proofs.YtdgillfbdlmloaaGreatDoor.P Go.Proofs.YtdgillfbdlmloaaGreatDoorW.PrintWords Go.Proofs.YtdgillfbdlmloaaGreatDoorW.PrintMore
set_option linter.unusedSimpArgs false
theorem bt_some {s : ByteArray} {i : Nat} (h : i < s.size) : ∃ c : UInt8, s.data.toList[i]? = some c ∧ bt s (i : Int) = (c.toNat : Int) := by
  refine ⟨s[i], Lib.data_getElem? s i h, ?_⟩
  unfold bt
  rw [dif_pos (show ((i : Int)).toNat < s.size by simpa using h)]
  simp
theorem ext_ext {s : ByteArray} {b i : Nat} (hi : b ≤ i) : (s.extract b s.size).extract 0 (i - b) = s.extract b i ∧ (s.extract b s.size).extract (i - b + 1) (s.extract b s.size).size = s.extract (i + 1) s.size := by
  constructor
  · apply ba_inj
    rw [Lib.extract_data, Lib.extract_to_end, Lib.extract_data]
    simp
  · apply ba_inj
    rw [Lib.extract_to_end, Lib.extract_to_end, Lib.extract_to_end, List.drop_drop]
    congr 1
    omega
theorem split_rounds (c : UInt8) (s : ByteArray) (hs : s.size ≤ 1048576) : ∀ (d k : Nat) (out : List ByteArray) (b i : Nat), b ≤ i → i + d = s.size → (∀ j, b ≤ j → j < i → s.data.toList[j]? ≠ some c) → out.length ≤ i → d < k →
    spec_l01Split.l0 k s (c.toNat : Int) out (b : Int) (i : Int) = some (out ++ wordsB c (s.extract b s.size)) := by
  intro d
  induction d with
  | zero =>
    intro k out b i hb hi hn ho hk
    obtain ⟨k, rfl⟩ : ∃ m, k = m + 1 := ⟨k - 1, by omega⟩
    simp only [spec_l01Split.l0]
    rw [if_neg (by omega), if_pos (by omega), if_pos (by omega), if_pos (by omega), Int.toNat_natCast]
    rw [words_miss (ib_miss (fun k hk => ?_))]
    rw [Lib.extract_to_end, List.getElem?_drop] at hk
    by_cases hlt : b + k < i
    · exact hn (b + k) (by omega) hlt hk
    · have := (List.getElem?_eq_some_iff.1 hk).1
      rw [ba_len] at this
      omega
  | succ d ih =>
    intro k out b i hb hi hn ho hk
    obtain ⟨k, rfl⟩ : ∃ m, k = m + 1 := ⟨k - 1, by omega⟩
    obtain ⟨x, hx, hbt⟩ := bt_some (s := s) (i := i) (by omega)
    have hw : wrap64 ((i : Int) + 1) = ((i + 1 : Nat) : Int) := by rw [wrd (by omega)]; omega
    simp only [spec_l01Split.l0]
    rw [if_pos (by omega), if_pos (by omega), hbt, hw]
    by_cases hc : x = c
    · subst hc
      rw [if_pos rfl, if_pos (by omega), if_pos (by omega), if_pos (by omega), if_pos (by omega), Int.toNat_natCast, Int.toNat_natCast]
      rw [ih k _ (i + 1) (i + 1) (Nat.le_refl _) (by omega) (fun j h1 h2 => by omega) (by rw [List.length_append]; simp; omega) (by omega)]
      have hix : Lib.index (s.extract b s.size).data.toList [x] = ((i - b : Nat) : Int) := ib_hit (by
        rw [Lib.extract_to_end, List.getElem?_drop, show b + (i - b) = i by omega]
        exact hx) (fun k hk e => by
        rw [Lib.extract_to_end, List.getElem?_drop] at e
        exact hn (b + k) (by omega) (by omega) e)
      obtain ⟨e1, e2⟩ := ext_ext (s := s) hb
      rw [words_hit hix, e1, e2, List.append_assoc]
      rfl
    · have hne : ¬ (x.toNat : Int) = (c.toNat : Int) := fun e => hc (UInt8.toNat_inj.mp (by omega))
      rw [if_neg hne]
      refine ih k out b (i + 1) (by omega) (by omega) (fun j h1 h2 => ?_) (by omega) (by omega)
      by_cases hj : j = i
      · subst hj
        rw [hx]
        exact fun e => hc (Option.some.inj e)
      · exact hn j h1 (by omega)
theorem split_spec (c : UInt8) (s : ByteArray) (hs : s.size ≤ 1048576) (k : Nat) (hk : s.size < k) : spec_l01Split.f k s (c.toNat : Int) = some (wordsB c s) := by
  unfold spec_l01Split.f
  have := split_rounds c s hs s.size k [] 0 0 (Nat.le_refl _) (by omega) (fun j h1 h2 => by omega) (by simp) hk
  rw [show s.extract 0 s.size = s by apply ba_inj; rw [Lib.extract_to_end]; rfl] at this
  exact this
/-- The number that a word spells, as the reference reads it. -/
def numP (t : ByteArray) : Int × Bool := if canonB t.data.toList = true then (((digV 0 t.data.toList : Nat) : Int), true) else (0, false)
theorem num_rounds (t : ByteArray) (hs : t.size ≤ 9) : ∀ (d k n i : Nat), i + d = t.size → n < 10 ^ i → d < k → spec_l01Number.l0 k t (n : Int) (i : Int) = some (if (t.data.toList.drop i).all isDig = true then (((digV n (t.data.toList.drop i) : Nat) : Int), true) else (0, false)) := by
  intro d
  induction d with
  | zero =>
    intro k n i hi hn hk
    obtain ⟨k, rfl⟩ : ∃ m, k = m + 1 := ⟨k - 1, by omega⟩
    simp only [spec_l01Number.l0]
    rw [if_neg (by omega), List.drop_eq_nil_of_le (by rw [ba_len]; omega)]
    rw [List.all_nil, if_pos rfl, digV_nil]
  | succ d ih =>
    intro k n i hi hn hk
    obtain ⟨k, rfl⟩ : ∃ m, k = m + 1 := ⟨k - 1, by omega⟩
    obtain ⟨x, hx, hbt⟩ := bt_some (s := t) (i := i) (by omega)
    have hil : i < t.data.toList.length := by rw [ba_len]; omega
    have hx2 : t.data.toList[i] = x := (List.getElem?_eq_some_iff.1 hx).2
    have hdr : t.data.toList.drop i = x :: t.data.toList.drop (i + 1) := by rw [List.drop_eq_getElem_cons hil, hx2]
    have hw : wrap64 ((i : Int) + 1) = ((i + 1 : Nat) : Int) := by rw [wrd (by omega)]; omega
    have h9 : (10 : Nat) ^ i ≤ 10 ^ 9 := Nat.pow_le_pow_right (by omega) (by omega)
    simp only [spec_l01Number.l0]
    rw [if_pos (by omega), if_pos (by omega), hbt, hdr, List.all_cons, digV_cons]
    by_cases c1 : (x.toNat : Int) < 48
    · rw [if_pos c1]
      have : isDig x = false := Bool.eq_false_iff.mpr (fun e => by have := (isDig_iff x).1 e; omega)
      rw [this, Bool.false_and, if_neg (by decide)]
    · rw [if_neg c1]
      by_cases c2 : (x.toNat : Int) > 57
      · rw [if_pos c2]
        have : isDig x = false := Bool.eq_false_iff.mpr (fun e => by have := (isDig_iff x).1 e; omega)
        rw [this, Bool.false_and, if_neg (by decide)]
      · rw [if_neg c2]
        have hd : isDig x = true := (isDig_iff x).2 (by omega)
        have hv : wrap64 (wrap64 (10 * (n : Int)) + ((x.toNat : Int) - 48) % 256) = ((10 * n + (x.toNat - 48) : Nat) : Int) := by
          rw [wrd (n := 10 * (n : Int)) (by omega), wrd (by omega)]
          omega
        rw [hd, Bool.true_and, hv, hw]
        exact ih k _ (i + 1) (by omega) (by rw [Nat.pow_succ]; omega) (by omega)
theorem num_spec (t : ByteArray) (k : Nat) (hk : 20 < k) : spec_l01Number.f k t = some (numP t) := by
  obtain ⟨k, rfl⟩ : ∃ m, k = m + 1 := ⟨k - 1, by omega⟩
  have hl := ba_len t
  unfold spec_l01Number.f numP
  rw [ByteArray.toList_eq]
  by_cases h0 : t.data.toList = []
  · rw [if_pos h0]
    simp only [spec_l01Number.j0]
    rw [if_pos trivial, h0]
    rfl
  · rw [if_neg h0]
    have hpos : 0 < t.size := by
      rw [← hl]
      exact List.length_pos_iff.mpr h0
    by_cases h9 : (t.size : Int) > 9
    · rw [if_pos h9]
      simp only [spec_l01Number.j0]
      have : canonB t.data.toList = false := by
        unfold canonB
        rw [decide_eq_false (by omega), Bool.false_and]
      rw [if_pos trivial, this, if_neg (by decide)]
    · rw [if_neg h9, if_pos (by omega)]
      obtain ⟨x, hx, hbt⟩ := bt_some (s := t) (i := 0) hpos
      have hb0 : bt t 0 = (x.toNat : Int) := hbt
      have hh : t.data.toList.head? = some x := by rw [List.head?_eq_getElem?]; exact hx
      have hr := num_rounds t (by omega) t.size k 0 0 (by omega) (by omega) (by omega)
      rw [List.drop_zero] at hr
      have hcan : ¬ (x = 48 ∧ 1 < t.size) → canonB t.data.toList = t.data.toList.all isDig := fun hn => by
        unfold canonB
        have : (t.data.toList.head? == some 48 && decide (1 < t.data.toList.length)) = false := by
          rw [hh, hl, Bool.and_eq_false_iff]
          by_cases e : x = 48
          · exact .inr (decide_eq_false (fun h => hn ⟨e, h⟩))
          · exact .inl (by simpa using e)
        rw [this, decide_eq_true (by omega)]
        simp
      rw [hb0]
      by_cases h48 : (x.toNat : Int) = 48
      · have hx48 : x = 48 := u8_eq (n := 48) (by omega)
        rw [if_pos h48]
        by_cases h1 : (t.size : Int) > 1
        · rw [decide_eq_true h1]
          simp only [spec_l01Number.j0]
          have : canonB t.data.toList = false := by
            unfold canonB
            rw [hh, hx48, decide_eq_true (show 1 < t.data.toList.length by omega)]
            simp
          rw [if_pos trivial, this, if_neg (by decide)]
        · rw [decide_eq_false h1]
          simp only [spec_l01Number.j0]
          rw [if_neg (by decide), hcan (fun h => by omega)]
          exact hr
      · rw [if_neg h48]
        simp only [spec_l01Number.j0]
        rw [if_neg (by decide), hcan (fun h => h48 (by rw [h.1]; rfl))]
        exact hr
end Go.Proofs.YtdgillfbdlmloaaGreatDoor.Core
/- Decimal numbers: what the program reads and what the reference reads. -/
namespace Go.Proofs.YtdgillfbdlmloaaGreatDoor.Core
open Go.RowKit Go.Proofs.YtdgillfbdlmloaaGreatDoor.P Go.Proofs.YtdgillfbdlmloaaGreatDoorW.PrintWords Go.Proofs.YtdgillfbdlmloaaGreatDoorW.PrintMore
set_option linter.unusedSimpArgs false
theorem parseM2 (M : Nat) : ∀ (l : List UInt8) (acc : Nat), l.all isDig = true → digV acc l ≤ M → digV acc l ≤ 1844674407370955160 → Lib.parseUintM M acc l = .ok (digV acc l) := by
  intro l
  induction l with
  | nil =>
    intro acc _ _ _
    simp only [digV_nil, Lib.parseUintM]
  | cons c r ih =>
    intro acc hd hv hw
    rw [List.all_cons, Bool.and_eq_true] at hd
    have h1 := (isDig_iff c).1 hd.1
    have h2 := digV_ge r (10 * acc + (c.toNat - 48))
    simp only [digV_cons, digV_nil] at hv hw ⊢
    unfold Lib.parseUintM
    rw [if_pos h1, if_neg (by omega), if_neg (by omega), show acc * 10 + (c.toNat - 48) = 10 * acc + (c.toNat - 48) by omega]
    exact ih _ hd.2 hv hw
/-- A word of the reference's numbers is a word of the program's, with the same number. -/
theorem num_dec64 {w : ByteArray} (h : (numP w).2 = true) : dec64 w = some (numP w).1 ∧ 0 ≤ (numP w).1 ∧ (decS (numP w).1).data.toList = w.data.toList := by
  have hc : canonB w.data.toList = true := by
    unfold numP at h
    split at h
    · assumption
    · cases h
  have e : (numP w).1 = ((digV 0 w.data.toList : Nat) : Int) := by
    unfold numP
    rw [if_pos hc]
  have hc2 := hc
  unfold canonB at hc2
  simp only [Bool.and_eq_true, decide_eq_true_eq, Bool.not_eq_true'] at hc2
  obtain ⟨⟨h1, h9⟩, hall, _⟩ := hc2
  have hlt := digV_lt w.data.toList hall 0
  have hpow : (10 : Nat) ^ w.data.toList.length ≤ 10 ^ 9 := Nat.pow_le_pow_right (by omega) h9
  have hv : digV 0 w.data.toList < 1000000000 := by omega
  have hdec : (decS (numP w).1).data.toList = w.data.toList := by
    rw [e]
    unfold decS
    rw [Lib.itoa_nonneg, canon_dec hc]
  refine ⟨?_, by omega, hdec⟩
  have hp : i64P w = some (numP w).1 := by
    rw [e]
    cases hl : w.data.toList with
    | nil =>
      rw [hl] at h1
      simp at h1
    | cons c r =>
      have hd := hall
      rw [hl, List.all_cons, Bool.and_eq_true] at hd
      have hcd := (isDig_iff c).1 hd.1
      unfold i64P
      rw [hl, Lib.parseIntB_plain 64 c r (by omega) (by omega)]
      unfold Lib.parseUintB
      rw [if_neg (by simp), ← hl, parseM2 (2 ^ 64 - 1) _ 0 hall (by omega) (by omega)]
      simp only [Lib.signlessC]
      rw [if_neg (by omega)]
  unfold dec64
  rw [hp, Option.bind_some, if_pos (by rw [ByteArray.toList_eq, ByteArray.toList_eq]; exact hdec)]
theorem dec64_text {w : ByteArray} {v : Int} (h : dec64 w = some v) : (decS v).data.toList = w.data.toList := by
  unfold dec64 at h
  replace h := Option.bind_eq_some_iff.mp h
  obtain ⟨u, _, h⟩ := h
  split at h
  · rename_i e
    obtain rfl := Option.some.inj h
    rw [ByteArray.toList_eq, ByteArray.toList_eq] at e
    exact e
  · cases h
/-- A word that the program reads as a small number is one of the reference's. -/
theorem dec64_num {w : ByteArray} {v : Int} (h : dec64 w = some v) (h0 : 0 ≤ v) (h1 : v ≤ 999999999) : numP w = (v, true) := by
  obtain ⟨m, rfl⟩ := Int.eq_ofNat_of_zero_le h0
  have e := dec64_text h
  unfold decS at e
  rw [Lib.itoa_nonneg] at e
  obtain ⟨d1, d2⟩ := dec_canon (n := m) (by omega)
  unfold numP
  rw [← e, if_pos d1, d2]
end Go.Proofs.YtdgillfbdlmloaaGreatDoor.Core
