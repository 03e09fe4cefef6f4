/- The value of digits in plain words: a sum of digits times places, less than the product of the bases. -/
import Derived.Test.YtmmplpflbflekaaDigCore
namespace Go.Proofs.Ytmmplpflbflekaa.Core
open Go.RowKit Go.Proofs.Ytmmplpflbflekaa.P Go.Proofs.YtmmplpflbflekaaW.PrintWords Go.Proofs.YtmmplpflbflekaaW.PrintMore
def valP : List Int → List Int → Int
  | [], _ => 0
  | _ :: _, [] => 0
  | b :: l, n :: d => n + b * valP l d
/-- Digits that fit their bases. -/
def Fits : List Int → List Int → Prop
  | [], _ => True
  | _ :: _, [] => False
  | b :: l, n :: d => (0 ≤ n ∧ n < b) ∧ Fits l d
theorem fits_of {bad : Int → Bool} {l d : List Int} (h : digB bad l d = true) (hb : Bytes d) (hl : l.length ≤ d.length) : Fits l d := by
  induction l generalizing d with
  | nil => trivial
  | cons b l ih =>
    cases d with
    | nil => simp at hl
    | cons n d =>
      simp only [digB, Bool.and_eq_true, decide_eq_true_eq] at h
      exact ⟨⟨(hb n (by simp)).1, h.1⟩, ih h.2 (fun x hx => hb x (by simp [hx])) (by simpa using hl)⟩
theorem Fits.take {l d : List Int} (h : Fits l d) (i : Nat) : Fits (l.take i) d := by
  induction l generalizing d i with
  | nil => simp [Fits]
  | cons b l ih =>
    cases i with
    | zero => simp [Fits]
    | succ i =>
      cases d with
      | nil => exact h.elim
      | cons n d => exact ⟨h.1, ih h.2 i⟩
theorem Fits.at {l d : List Int} (h : Fits l d) (i : Nat) (hi : i < l.length) : 0 ≤ d.getD i 0 ∧ d.getD i 0 < l.getD i 0 := by
  induction l generalizing d i with
  | nil => simp at hi
  | cons b l ih =>
    cases d with
    | nil => exact h.elim
    | cons n d =>
      cases i with
      | zero => simpa using h.1
      | succ i => simpa using ih h.2 i (by simpa using hi)
theorem valP_bd {l d : List Int} (hb : ∀ b ∈ l, 2 ≤ b ∧ b ≤ 100) (h : Fits l d) : 0 ≤ valP l d ∧ valP l d < prodZ l := by
  induction l generalizing d with
  | nil => simp [valP, prodZ]
  | cons b l ih =>
    cases d with
    | nil => exact h.elim
    | cons n d =>
      have hb0 := hb b (by simp)
      obtain ⟨h1, h2⟩ := ih (fun c hc => hb c (by simp [hc])) h.2
      have h3 := h.1
      simp only [valP, prodZ]
      have m0 : 0 ≤ b * valP l d := Int.mul_nonneg (by omega) h1
      have m1 : b * (valP l d + 1) ≤ b * prodZ l := Int.mul_le_mul_of_nonneg_left (by omega) (by omega)
      rw [Int.mul_add] at m1
      omega
theorem prodZ_snoc (l : List Int) (b : Int) : prodZ (l ++ [b]) = prodZ l * b := by
  induction l with
  | nil => simp [prodZ]
  | cons c l ih => simp [prodZ, ih, Int.mul_assoc]
theorem take_snoc' (l : List Int) (i : Nat) (h : i < l.length) : l.take (i + 1) = l.take i ++ [l.getD i 0] := by
  rw [List.take_succ_eq_append_getElem h]
  simp [List.getD, List.getElem?_eq_getElem h]
theorem valP_snoc (l d : List Int) (b : Int) (h : l.length < d.length) : valP (l ++ [b]) d = valP l d + prodZ l * d.getD l.length 0 := by
  induction l generalizing d with
  | nil =>
    cases d with
    | nil => simp at h
    | cons n d => simp [valP, prodZ]
  | cons c l ih =>
    cases d with
    | nil => simp at h
    | cons n d =>
      have := ih d (by simpa using h)
      simp only [List.cons_append, valP, prodZ, this, List.length_cons, List.getD_cons_succ]
      rw [Int.mul_add, Int.mul_assoc, Int.add_assoc]
theorem valP_next (l d : List Int) (i : Nat) (hi : i < l.length) (hd : l.length ≤ d.length) : valP (l.take (i + 1)) d = valP (l.take i) d + prodZ (l.take i) * d.getD i 0 := by
  have e : (l.take i).length = i := by rw [List.length_take]; omega
  have := valP_snoc (l.take i) d (l.getD i 0) (by omega)
  rw [take_snoc' l i hi, this, e]
theorem prodZ_next (l : List Int) (i : Nat) (hi : i < l.length) : prodZ (l.take (i + 1)) = prodZ (l.take i) * l.getD i 0 := by
  rw [take_snoc' l i hi, prodZ_snoc]
theorem bases_take {l : List Int} (hb : ∀ b ∈ l, 2 ≤ b ∧ b ≤ 100) (i : Nat) : ∀ b ∈ l.take i, 2 ≤ b ∧ b ≤ 100 := fun b h => hb b (List.mem_of_mem_take h)
theorem bases_at {l : List Int} (hb : ∀ b ∈ l, 2 ≤ b ∧ b ≤ 100) (i : Nat) (hi : i < l.length) : 2 ≤ l.getD i 0 ∧ l.getD i 0 ≤ 100 := by
  have : l.getD i 0 = l[i] := by simp [List.getD, List.getElem?_eq_getElem hi]
  rw [this]
  exact hb _ (List.getElem_mem hi)
theorem valDown_eq (l d : List Int) (hb : ∀ b ∈ l, 2 ≤ b ∧ b ≤ 100) (hf : Fits l d) (hd : l.length ≤ d.length) : ∀ (i : Nat) (n : Int), i ≤ l.length → 0 ≤ n → (n + 1) * prodZ (l.take i) ≤ 1000000000000 → valDown l d i n = n * prodZ (l.take i) + valP (l.take i) d := by
  intro i
  induction i with
  | zero =>
    intro n _ _ _
    simp [valDown, prodZ, valP]
  | succ i ih =>
    intro n hi h0 hn
    have hp := prodZ_pos (bases_take hb i)
    have hbi := bases_at hb i (by omega)
    have hdi := hf.at i (by omega)
    rw [prodZ_next l i (by omega)] at hn
    have hrl : rd l (i : Int) = l.getD i 0 := by simp [rd]
    have hrd : rd d (i : Int) = d.getD i 0 := by simp [rd]
    simp only [valDown]
    rw [hrl, hrd]
    generalize hB : l.getD i 0 = b at *
    generalize hQ : d.getD i 0 = q at *
    generalize hP : prodZ (l.take i) = p at *
    have hc : (n + 1) * (p * b) = ((n + 1) * b) * p := by rw [Int.mul_comm p b, Int.mul_assoc]
    have g1 : (n + 1) * b * 1 ≤ (n + 1) * b * p := Int.mul_le_mul_of_nonneg_left hp (Int.mul_nonneg (by omega) (by omega))
    have g2 : (n + 1) * b = n * b + b := by rw [Int.add_mul]; omega
    have g3 : 0 ≤ n * b := Int.mul_nonneg h0 (by omega)
    have e1 : wrap64 b = b := wr (by omega)
    have e2 : wrap64 (n * b) = n * b := wr (by omega)
    have e3 : wrap64 q = q := wr (by omega)
    have e4 : wrap64 (n * b + q) = n * b + q := wr (by omega)
    rw [e1, e2, e3, e4]
    have g4 : (n * b + q + 1) * p ≤ (n + 1) * b * p := Int.mul_le_mul_of_nonneg_right (by omega) (by omega)
    rw [ih (n * b + q) (by omega) (by omega) (by omega), prodZ_next l i (by omega), valP_next l d i (by omega) hd, hP, hB, hQ, Int.add_mul, Int.mul_assoc, Int.mul_comm b p, Int.mul_comm q p]
    omega
theorem valZ_eq {l d : List Int} (hv : digOK l d = true) (hb : Bytes d) (hd : d.length = 8) : valZ l d = valP l d ∧ 0 ≤ valP l d ∧ valP l d < prodZ l := by
  have h1 := digOK_valid hv
  have h8 := (validB_len h1).2
  simp only [digOK, Bool.and_eq_true] at hv
  have hf := fits_of hv.2 hb (by omega)
  have hp := sizeZ_prod h1
  have e := valDown_eq l d (validB_base h1) hf (by omega) l.length 0 (Nat.le_refl _) (by omega) (by rw [List.take_length]; omega)
  rw [List.take_length] at e
  have bd := valP_bd (validB_base h1) hf
  unfold valZ
  exact ⟨by omega, bd.1, bd.2⟩
end Go.Proofs.Ytmmplpflbflekaa.Core
