/- Back and forth: both texts. -/
import Derived.Test.YtmjfpigkobeahaaPx13
import Derived.Test.YtmjfpigkobeahaaPx34
import Derived.Test.YtmjfpigkobeahaaPx14
import Derived.Test.YtmjfpigkobeahaaPx12
import Derived.Test.YtmjfpigkobeahaaPx6
import Derived.Test.YtmjfpigkobeahaaBackA
import Derived.Test.YtmjfpigkobeahaaCore
namespace Go.Proofs.Ytmjfpigkobeahaa.Core
open Go.RowKit Go.Proofs.Ytmjfpigkobeahaa.P Go.Proofs.YtmjfpigkobeahaaW.PrintWords Go.Proofs.YtmjfpigkobeahaaW.PrintMore
def tB (a : Int) : Bool := decide (0 ≤ a ∧ a ≤ 1000000000000000)
def teB (b : Int) : Bool := decide (1 ≤ b ∧ b ≤ 1000) && (((1000 : Int) % b) == 0)
theorem teeth_specB (a b : Int) : spec_l02Teeth.f a b = some (tB a && teB b) := by
  unfold spec_l02Teeth.f tB teB
  rw [in_eq, in_eq]
  simp only [Option.bind_some, decide_eq_true_eq]
  by_cases h1 : 0 ≤ a ∧ a ≤ 1000000000000000
  · by_cases h2 : 1 ≤ b ∧ b ≤ 1000
    · rw [if_pos h1, if_pos h2, if_neg (by omega), decide_eq_true h1, decide_eq_true h2]
      rfl
    · rw [if_pos h1, if_neg h2, decide_eq_true h1, decide_eq_false h2]
      rfl
  · rw [if_neg h1, decide_eq_false h1]
    rfl
theorem turn_implB (a : Int) : impl_isTurn.f a = some (tB a) := by
  unfold impl_isTurn.f tB
  rw [within_eq]
  rfl
theorem teeth_implB (b : Int) : impl_isTeeth.f b = some (teB b) := by
  unfold impl_isTeeth.f teB
  rw [within_eq]
  simp only [Option.bind_some, decide_eq_true_eq]
  by_cases h2 : 1 ≤ b ∧ b ≤ 1000
  · rw [if_pos h2, if_neg (by omega), decide_eq_true h2]
    rfl
  · rw [if_neg h2, decide_eq_false h2]
    rfl
theorem max_specB (a b : Int) : spec_l00Max.f a b = some (mx a b) := by
  unfold spec_l00Max.f mx
  repeat' split
  all_goals first | rfl | (congr 1; omega)
/-- Where a turn comes to. -/
def nextZ (step t b : Int) : Int := mx (wrap64 (t + b)) (wrap64 (t - Int.tmod t step))
/-- All moves, one after the other. -/
def bfZ (step : Int) : List Int → Int → Int → Int × Int × Int
  | [], t, c => (t, c, 0)
  | b :: ms, t, c => if nextZ step t b > 1000000000000000 then (0, 0, 3) else bfZ step ms (nextZ step t b) (wrap64 (c + wrap64 (wrap64 (Int.tdiv (nextZ step t b) step) - wrap64 (Int.tdiv t step))))
theorem back_impl (l : List Int) (hl : l.length ≤ 100) (step : Int) (hs : 1 ≤ step) : ∀ (d k : Nat) (t c x : Int), 0 ≤ x → x + d = l.length → d < k → impl_BackAndForth.l0 k t step c l (l.length : Int) x = some (bfZ step (l.drop x.toNat) t c) := by
  intro d
  induction d with
  | zero =>
    intro k t c x h0 h1 hk
    obtain ⟨k, rfl⟩ : ∃ m, k = m + 1 := ⟨k - 1, by omega⟩
    simp only [impl_BackAndForth.l0]
    rw [if_neg (by omega), List.drop_eq_nil_of_le (by omega)]
    rfl
  | succ d ih =>
    intro k t c x h0 h1 hk
    obtain ⟨k, rfl⟩ : ∃ m, k = m + 1 := ⟨k - 1, by omega⟩
    simp only [impl_BackAndForth.l0]
    rw [if_pos (by omega), if_pos h0, if_pos (by omega), if_neg (by omega), drop_rdM l x h0 (by omega), wr (n := x + 1) (by omega)]
    simp only [bfZ]
    show (if nextZ step t (rd l x) > 1000000000000000 then some (0, 0, 3) else _) = _
    split
    · rfl
    · exact ih k _ _ (x + 1) (by omega) (by omega) (by omega)
theorem down_eq {step t : Int} (hs : 1 ≤ step ∧ step ≤ 1000) (ht : 0 ≤ t ∧ t ≤ 1000000000000000) : wrap64 (wrap64 (Int.tdiv t step) * step) = wrap64 (t - Int.tmod t step) ∧ 0 ≤ Int.tmod t step ∧ Int.tmod t step ≤ t := by
  have e := Int.mul_tdiv_add_tmod t step
  have h1 : 0 ≤ Int.tdiv t step := Int.tdiv_nonneg ht.1 (by omega)
  have h2 : Int.tdiv t step ≤ t := by
    rw [Int.tdiv_eq_ediv_of_nonneg ht.1]
    exact Int.ediv_le_self _ ht.1
  have h3 : 0 ≤ Int.tmod t step := Int.tmod_nonneg step ht.1
  have h4 : 0 ≤ step * Int.tdiv t step := Int.mul_nonneg (by omega) h1
  refine ⟨?_, h3, by omega⟩
  rw [wr (n := Int.tdiv t step) (by omega), Int.mul_comm]
  congr 1
  omega
theorem next_bd {step t b : Int} (hs : 1 ≤ step ∧ step ≤ 1000) (ht : 0 ≤ t ∧ t ≤ 1000000000000000) (hb : -1000000000000000 ≤ b ∧ b ≤ 1000000000000000) : 0 ≤ nextZ step t b := by
  obtain ⟨_, h1, h2⟩ := down_eq hs ht
  unfold nextZ mx
  rw [wr (n := t + b) (by omega), wr (n := t - Int.tmod t step) (by omega)]
  split <;> omega
theorem back_spec (l : List Int) (hl : l.length ≤ 100) (hb : ∀ j, 0 ≤ j → j < (l.length : Int) → -1000000000000000 ≤ rd l j ∧ rd l j ≤ 1000000000000000) (step : Int) (hs : 1 ≤ step ∧ step ≤ 1000) : ∀ (d k : Nat) (t c x : Int), 0 ≤ t ∧ t ≤ 1000000000000000 → 0 ≤ x → x + d = l.length → d < k →
    spec_BackAndForth.l1 k t l step c x = some (bfZ step (l.drop x.toNat) t c) := by
  intro d
  induction d with
  | zero =>
    intro k t c x ht h0 h1 hk
    obtain ⟨k, rfl⟩ : ∃ m, k = m + 1 := ⟨k - 1, by omega⟩
    simp only [spec_BackAndForth.l1]
    rw [if_neg (by omega), List.drop_eq_nil_of_le (by omega)]
    rfl
  | succ d ih =>
    intro k t c x ht h0 h1 hk
    obtain ⟨k, rfl⟩ : ∃ m, k = m + 1 := ⟨k - 1, by omega⟩
    have hbx := hb x h0 (by omega)
    have hd := down_eq hs ht
    have hn := next_bd hs ht hbx
    simp only [spec_BackAndForth.l1]
    rw [if_pos (by omega), if_pos h0, drop_rdM l x h0 (by omega), wr (n := x + 1) (by omega)]
    have hstep : ¬ step = 0 := by omega
    simp only [bfZ, if_neg hstep, max_specB, Option.bind_some]
    by_cases c1 : rd l x < 0
    · rw [if_pos c1, hd.1]
      by_cases c2 : nextZ step t (rd l x) > 1000000000000000
      · rw [if_pos c2]
        exact if_pos c2
      · rw [if_neg c2]
        exact (if_neg c2).trans (ih k (nextZ step t (rd l x)) _ (x + 1) ⟨hn, by omega⟩ (by omega) (by omega) (by omega))
    · have e : wrap64 (t + rd l x) = nextZ step t (rd l x) := by
        unfold nextZ mx
        rw [wr (n := t + rd l x) (by omega), wr (n := t - Int.tmod t step) (by omega)]
        split <;> omega
      rw [if_neg c1, e]
      split
      · rfl
      · exact ih k (nextZ step t (rd l x)) _ (x + 1) ⟨hn, by omega⟩ (by omega) (by omega) (by omega)
/-- All moves are right: the loop over them comes to its end. -/
theorem ok_all (t te : Int) (l : List Int) (hl : l.length ≤ 1048576) (hg : l.any badM = false) : ∀ (d k : Nat) (x : Int), 0 ≤ x → x + d = l.length → spec_BackAndForth.l0 (k + d + 1) t l te true x = spec_BackAndForth.j2 k t l te true := by
  intro d
  induction d with
  | zero =>
    intro k x h0 h1
    simp only [spec_BackAndForth.l0]
    rw [if_neg (by omega)]
  | succ d ih =>
    intro k x h0 h1
    have hm : badM (rd l x) = false := by
      have : rd l x ∈ l := by
        simp [rd, List.getD, List.getElem?_eq_getElem (show x.toNat < l.length by omega)]
      rw [List.any_eq_false] at hg
      simpa using hg _ this
    simp only [spec_BackAndForth.l0]
    rw [if_pos (by omega), if_pos trivial, if_pos h0, in_eq, wr (n := x + 1) (by omega)]
    simp only [Option.bind_some]
    have e : decide (-1000000000000000 ≤ rd l x ∧ rd l x ≤ 1000000000000000) = true := by
      unfold badM at hm
      simpa using hm
    rw [e]
    exact ih k (x + 1) (by omega) (by omega)
/-- A move is none: no is the answer. -/
theorem ok_no (t te : Int) (l : List Int) (hl : l.length ≤ 1048576) : ∀ (d k : Nat) (ok : Bool) (x : Int), 0 ≤ x → x + d = l.length → (ok = true → (l.drop x.toNat).any badM = true) → d + 2 < k → spec_BackAndForth.l0 k t l te ok x = some (0, 0, 2) := by
  intro d
  induction d with
  | zero =>
    intro k ok x h0 h1 hg hk
    obtain ⟨k, rfl⟩ : ∃ m, k = m + 2 := ⟨k - 2, by omega⟩
    rw [List.drop_eq_nil_of_le (by omega)] at hg
    cases ok with
    | true => exact absurd (hg rfl) (by simp)
    | false =>
      simp only [spec_BackAndForth.l0, spec_BackAndForth.j2]
      rw [if_neg (by omega)]
      rfl
  | succ d ih =>
    intro k ok x h0 h1 hg hk
    obtain ⟨k, rfl⟩ : ∃ m, k = m + 2 := ⟨k - 2, by omega⟩
    cases ok with
    | false =>
      simp only [spec_BackAndForth.l0, spec_BackAndForth.j2]
      rw [if_pos (by omega)]
      rfl
    | true =>
      rw [drop_rdM l x h0 (by omega), List.any_cons] at hg
      rw [spec_BackAndForth.l0]
      rw [if_pos (by omega), if_pos rfl, if_pos h0, in_eq, wr (n := x + 1) (by omega)]
      simp only [Option.bind_some]
      refine ih (k + 1) _ (x + 1) (by omega) (by omega) ?_ (by omega)
      intro h
      have hm : badM (rd l x) = false := by
        unfold badM
        simpa using h
      simpa [hm] using hg rfl
theorem back_both (k : Nat) (t te : Int) (l : List Int) (hl : l.length ≤ 1048576) (hk : 3000000 < k) : ∃ r, spec_BackAndForth.f k t l te = some r ∧ impl_BackAndForth.f k t l te = some r := by
  unfold spec_BackAndForth.f impl_BackAndForth.f slices_ContainsFunc_int64_int64.f
  simp only [teeth_specB, turn_implB, teeth_implB, Option.bind_some]
  obtain ⟨k, rfl⟩ : ∃ m, k = (m + 1) + l.length + 1 + 1 := ⟨k - l.length - 3, by omega⟩
  by_cases h1 : tB t = true
  · by_cases h2 : teB te = true
    · have ht : 0 ≤ t ∧ t ≤ 1000000000000000 := by simpa [tB] using h1
      have hte : 1 ≤ te ∧ te ≤ 1000 := by
        have := h2
        simp [teB] at this
        omega
      have hne : ¬ te = 0 := by omega
      have hs : 1 ≤ wrap64 (Int.tdiv 1000 te) ∧ wrap64 (Int.tdiv 1000 te) ≤ 1000 := by
        have a1 : 1 ≤ (1000 : Int) / te := (Int.le_ediv_iff_mul_le (by omega)).mpr (by omega)
        have a2 : (1000 : Int) / te ≤ 1000 := Int.ediv_le_self _ (by omega)
        rw [Int.tdiv_eq_ediv_of_nonneg (by omega), wr (by omega)]
        exact ⟨a1, a2⟩
      simp only [h1, h2, Bool.and_true, if_true]
      by_cases h3 : l.length ≤ 100
      · have h3' : decide ((l.length : Int) ≤ 100) = true := decide_eq_true (by omega)
        have h3'' : ¬ (l.length : Int) > 100 := by omega
        rw [h3', if_neg h3'']
        by_cases h4 : l.any badM = true
        · refine ⟨(0, 0, 2), ?_, ?_⟩
          · simp only [spec_BackAndForth.j0]
            exact ok_no t te l hl l.length _ true 0 (by omega) (by omega) (fun _ => by simpa using h4) (by omega)
          · simp only [impl_BackAndForth.j0]
            rw [if_pos h4]
        · have h4' : l.any badM = false := by simpa using h4
          have hb : ∀ j, 0 ≤ j → j < (l.length : Int) → -1000000000000000 ≤ rd l j ∧ rd l j ≤ 1000000000000000 := fun j a b => by
            have : rd l j ∈ l := by
              simp [rd, List.getD, List.getElem?_eq_getElem (show j.toNat < l.length by omega)]
            rw [List.any_eq_false] at h4'
            have := h4' _ this
            simpa [badM] using this
          refine ⟨bfZ (wrap64 (Int.tdiv 1000 te)) l t 0, ?_, ?_⟩
          · simp only [spec_BackAndForth.j0]
            rw [ok_all t te l hl h4' l.length (k + 1) 0 (by omega) (by omega)]
            simp only [spec_BackAndForth.j2, if_true, if_neg hne]
            exact back_spec l h3 hb _ hs l.length k t 0 0 ht (by omega) (by omega) (by omega)
          · simp only [impl_BackAndForth.j0]
            rw [if_neg h4, if_neg hne]
            exact back_impl l h3 _ hs.1 l.length _ t 0 0 (by omega) (by omega) (by omega)
      · have h3' : decide ((l.length : Int) ≤ 100) = false := decide_eq_false (by omega)
        have h3'' : (l.length : Int) > 100 := by omega
        rw [h3', if_pos h3'']
        refine ⟨(0, 0, 2), ?_, ?_⟩
        · simp only [spec_BackAndForth.j0]
          exact ok_no t te l hl l.length _ false 0 (by omega) (by omega) (fun h => by cases h) (by omega)
        · simp only [impl_BackAndForth.j0, if_true]
    · have h2' : teB te = false := by simpa using h2
      simp only [h1, h2', Bool.and_false, Bool.false_eq_true, if_false, if_true]
      refine ⟨(0, 0, 2), ?_, ?_⟩
      · simp only [spec_BackAndForth.j0]
        exact ok_no t te l hl l.length _ false 0 (by omega) (by omega) (fun h => by cases h) (by omega)
      · simp only [impl_BackAndForth.j0, if_true]
  · have h1' : tB t = false := by simpa using h1
    simp only [h1', Bool.false_and, Bool.false_eq_true, if_false]
    refine ⟨(0, 0, 2), ?_, ?_⟩
    · simp only [spec_BackAndForth.j0]
      exact ok_no t te l hl l.length _ false 0 (by omega) (by omega) (fun h => by cases h) (by omega)
    · simp only [impl_BackAndForth.j0, if_true]
end Go.Proofs.Ytmjfpigkobeahaa.Core
