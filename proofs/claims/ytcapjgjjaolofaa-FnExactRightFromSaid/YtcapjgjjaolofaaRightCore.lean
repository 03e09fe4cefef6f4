/- The right digits: both texts in plain words. -/
import Derived.Test.YtcapjgjjaolofaaPx9
import Derived.Test.YtcapjgjjaolofaaPx8
import Derived.Test.YtcapjgjjaolofaaMotOk
import Derived.Test.YtcapjgjjaolofaaTurnCore
import Derived.Test.YtcapjgjjaolofaaRightF
namespace Go.Proofs.Ytcapjgjjaolofaa.Core
open Go.RowKit Go.Proofs.Ytcapjgjjaolofaa.P Go.Proofs.YtcapjgjjaolofaaW.PrintWords Go.Proofs.YtcapjgjjaolofaaW.PrintMore
theorem zero_same (n : Int) : zeroS n = zeroI n := by
  unfold zeroS zeroI
  rw [Bool.eq_iff_iff]
  simp
  omega
theorem givB_same (l d : List Int) : givB zeroS l d = givB zeroI l d := by
  induction d generalizing l with
  | nil => cases l <;> rfl
  | cons n d ih =>
    cases l with
    | nil =>
      simp only [givB]
      rw [zero_same, ih []]
    | cons b l =>
      simp only [givB]
      rw [ih l]
theorem wholeZ_eq {b : Int} (h : 2 ≤ b ∧ b ≤ 100) : wholeZ b = b * 1000 := by
  unfold wholeZ
  rw [wr (n := b) (by omega), wr (by omega)]
/-- What is known of the part of a wheel. -/
theorem givB_at {zero : Int → Bool} {l d : List Int} (h : givB zero l d = true) (hb : ∀ b ∈ l, 2 ≤ b ∧ b ≤ 100) (x : Int) (h0 : 0 ≤ x) (h1 : x < (l.length : Int)) (h2 : x < (d.length : Int)) : 0 ≤ rd d x ∧ rd d x < rd l x * 1000 ∧ 2 ≤ rd l x ∧ rd l x ≤ 100 := by
  have key : ∀ (n : Nat) (l d : List Int), givB zero l d = true → (∀ b ∈ l, 2 ≤ b ∧ b ≤ 100) → n < l.length → n < d.length → 0 ≤ d.getD n 0 ∧ d.getD n 0 < l.getD n 0 * 1000 ∧ 2 ≤ l.getD n 0 ∧ l.getD n 0 ≤ 100 := by
    intro n
    induction n with
    | zero =>
      intro l d h hb h1 h2
      cases l with
      | nil => simp at h1
      | cons b l =>
        cases d with
        | nil => simp at h2
        | cons m d =>
          simp only [givB, Bool.and_eq_true, decide_eq_true_eq] at h
          have hbb := hb b (by simp)
          rw [wholeZ_eq hbb, wr (by omega)] at h
          simp
          omega
    | succ n ih =>
      intro l d h hb h1 h2
      cases l with
      | nil => simp at h1
      | cons b l =>
        cases d with
        | nil => simp at h2
        | cons m d =>
          simp only [givB, Bool.and_eq_true] at h
          have := ih l d h.2 (fun c hc => hb c (by simp [hc])) (by simpa using h1) (by simpa using h2)
          simpa using this
  exact key x.toNat l d h hb (by omega) (by omega)
theorem bey_in (b a f q : Int) (hb : 2 ≤ b ∧ b ≤ 100) (hf : 0 ≤ wrap64 f ∧ wrap64 f ≤ 999) (hq : 0 ≤ q ∧ q < b * 1000) : 0 ≤ beyZ b a f q ∧ beyZ b a f q < 1000 := by
  unfold beyZ lateZ
  generalize wrap64 f = F at *
  rw [wr (n := b) (by omega)]
  split
  · rw [Int.tdiv_eq_ediv_of_nonneg hq.1]
    have h1 : q / b < 1000 := Int.ediv_lt_of_lt_mul (by omega) (by omega)
    have h0 : 0 ≤ q / b := Int.ediv_nonneg hq.1 (by omega)
    rw [wr (by omega)]
    exact ⟨h0, h1⟩
  · rw [wr (n := b - 1) (by omega), wr (n := (b - 1) * 1000) (by omega), wr (n := (b - 1) * 1000 + F) (by omega)]
    split
    · omega
    · rw [wr (n := q - ((b - 1) * 1000 + F)) (by omega), wr (n := (q - ((b - 1) * 1000 + F)) * 1000) (by omega), wr (n := 1000 - F) (by omega), Int.tdiv_eq_ediv_of_nonneg (by omega)]
      have h1 : (q - ((b - 1) * 1000 + F)) * 1000 / (1000 - F) < 1000 := Int.ediv_lt_of_lt_mul (by omega) (by omega)
      have h0 : 0 ≤ (q - ((b - 1) * 1000 + F)) * 1000 / (1000 - F) := Int.ediv_nonneg (by omega) (by omega)
      rw [wr (by omega)]
      exact ⟨h0, h1⟩
theorem mod_back (t b : Int) (hb : 2 ≤ b) : (t.tmod b + b).tmod b = t % b := by
  have h3 := Int.emod_nonneg t (show b ≠ 0 by omega)
  have h4 := Int.emod_lt_of_pos t (show 0 < b by omega)
  have hn : (b.natAbs : Int) = b := by omega
  rw [Int.tmod_eq_emod (a := t)]
  split
  · rw [Int.tmod_eq_emod_of_nonneg (by omega)]
    simp
  · rw [hn, show t % b - b + b = t % b by omega, Int.tmod_eq_emod_of_nonneg h3, Int.emod_emod_of_dvd _ (Int.dvd_refl b)]
theorem tmod_in (t b : Int) (hb : 2 ≤ b ∧ b ≤ 100) : -100 ≤ t.tmod b ∧ t.tmod b ≤ 100 := by
  have h3 := Int.emod_nonneg t (show b ≠ 0 by omega)
  have h4 := Int.emod_lt_of_pos t (show 0 < b by omega)
  have hn : (b.natAbs : Int) = b := by omega
  rw [Int.tmod_eq_emod (a := t)]
  split <;> omega
theorem step_same (l : List Int) (js : List S88) (d : List Int) (n : Nat) (s : Int × List Int) (hb : 2 ≤ rd l (n : Int) ∧ rd l (n : Int) ≤ 100) (hB : 2 ≤ rd l ((n : Int) + 1) ∧ rd l ((n : Int) + 1) ≤ 100)
    (hf : 0 ≤ wrap64 (rd_T88 js (n : Int)).f1 ∧ wrap64 (rd_T88 js (n : Int)).f1 ≤ 999) (hq : 0 ≤ s.1 ∧ s.1 < rd l (n : Int) * 1000) (hp : 0 ≤ rd d ((n : Int) + 1) ∧ rd d ((n : Int) + 1) < rd l ((n : Int) + 1) * 1000) :
    stepS l js d n s = stepI l js d n s ∧ 0 ≤ (stepI l js d n s).1 ∧ (stepI l js d n s).1 < rd l ((n : Int) + 1) * 1000 := by
  have hbey := bey_in (rd l (n : Int)) (rd_T88 js (n : Int)).f0 (rd_T88 js (n : Int)).f1 s.1 hb hf hq
  unfold stepS stepI
  dsimp only
  generalize beyZ (rd l (n : Int)) (rd_T88 js (n : Int)).f0 (rd_T88 js (n : Int)).f1 s.1 = F at *
  generalize rd l ((n : Int) + 1) = B at *
  generalize rd d ((n : Int) + 1) = p at *
  rw [wr (n := p - F) (by omega), wr (n := 2 * (p - F)) (by omega), wr (n := 2 * (p - F) + 1000) (by omega), wr (n := p - F + 500) (by omega), wr (n := B) (by omega)]
  rw [down_floor _ _ (by omega), floor_eq _ _ (by omega) (by omega) (by omega), floor_eq _ _ (by omega) (by omega) (by omega), Option.getD_some, Option.getD_some]
  have ht : (2 * (p - F) + 1000) / 2000 = (p - F + 500) / 1000 := by omega
  rw [ht]
  have hti : -1 ≤ (p - F + 500) / 1000 ∧ (p - F + 500) / 1000 ≤ 101 := by omega
  generalize (p - F + 500) / 1000 = t at *
  rw [wrapped_eq t B (by omega) (by omega) (by omega) (by omega), Option.getD_some]
  have hm := tmod_in t B hB
  rw [wr (n := t.tmod B + B) (by omega), mod_back t B hB.1]
  have h3 := Int.emod_nonneg t (show B ≠ 0 by omega)
  have h4 := Int.emod_lt_of_pos t (show 0 < B by omega)
  dsimp only
  generalize t % B = x at *
  rw [wr (n := x * 1000) (by omega), wr (n := x * 1000 + F) (by omega)]
  exact ⟨rfl, by omega, by omega⟩
theorem rg_same (l : List Int) (js : List S88) (d : List Int) (hv : validB l = true) (hj : js.length + 1 = l.length) (hjo : ∀ j ∈ js, 0 ≤ wrap64 j.f1 ∧ wrap64 j.f1 ≤ 999) (hg : givB zeroI l d = true) (hd : d.length = 8) (h8 : l.length ≤ 8) :
    ∀ n : Nat, n < l.length → rgS l js d n = rgI l js d n ∧ 0 ≤ (rgI l js d n).1 ∧ (rgI l js d n).1 < rd l (n : Int) * 1000 := by
  intro n
  induction n with
  | zero =>
    intro hn
    have h := givB_at hg (validB_base hv) 0 (by omega) (by omega) (by omega)
    exact ⟨rfl, h.1, h.2.1⟩
  | succ n ih =>
    intro hn
    obtain ⟨e, q0, q1⟩ := ih (by omega)
    have h0 := givB_at hg (validB_base hv) (n : Int) (by omega) (by omega) (by omega)
    have h1 := givB_at hg (validB_base hv) ((n : Int) + 1) (by omega) (by omega) (by omega)
    have hfm : rd_T88 js (n : Int) ∈ js := by simp [rd_T88, List.getD, List.getElem?_eq_getElem (show n < js.length by omega)]
    have hs := step_same l js d n (rgI l js d n) h0.2.2 h1.2.2 (hjo _ hfm) ⟨q0, q1⟩ ⟨h1.1, h1.2.1⟩
    simp only [rgS, rgI, e]
    exact hs
theorem okM_joints {l : List Int} {js : List S88} (h : okM (validB l) l js = true) (hl : l.length ≤ 1048576) : js.length + 1 = l.length ∧ ∀ j ∈ js, 0 ≤ wrap64 j.f1 ∧ wrap64 j.f1 ≤ 999 := by
  have hv := okM_valid h
  have h1 := (validB_len hv).1
  unfold okM at h
  rw [hv, wr (by omega)] at h
  simp only [Bool.and_eq_true, decide_eq_true_eq, List.all_eq_true] at h
  refine ⟨by omega, ?_⟩
  intro j hj
  have := h.2.2 j hj
  unfold okS at this
  simp only [Bool.and_eq_true, decide_eq_true_eq] at this
  exact this.2.2
end Go.Proofs.Ytcapjgjjaolofaa.Core
