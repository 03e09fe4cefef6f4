/- How often wheels move: both texts in plain words. -/
import Derived.Test.YtcapjgjjaolofaaFloor
import Derived.Test.YtcapjgjjaolofaaStackCore
import Derived.Test.YtcapjgjjaolofaaMovF
import Derived.Test.YtcapjgjjaolofaaPx22
import Derived.Test.YtcapjgjjaolofaaPx17
namespace Go.Proofs.Ytcapjgjjaolofaa.Core
open Go.RowKit Go.Proofs.Ytcapjgjjaolofaa.P Go.Proofs.YtcapjgjjaolofaaW.PrintWords Go.Proofs.YtcapjgjjaolofaaW.PrintMore
theorem digB_same (l d : List Int) (h : Bytes d) : digB (fun n => n != 0) l d = digB (fun n => decide (0 < n)) l d := by
  induction d generalizing l with
  | nil => cases l <;> rfl
  | cons n d ih =>
    have hn := h n (by simp)
    have hd : Bytes d := fun x hx => h x (by simp [hx])
    cases l with
    | nil =>
      simp only [digB]
      rw [ih [] hd, show (n != 0) = decide (0 < n) by rw [Bool.eq_iff_iff]; simp; omega]
    | cons b l =>
      simp only [digB]
      rw [ih l hd]
/-- Are the digits valid for the stack? -/
def digOK (l d : List Int) : Bool := validB l && digB (fun n => decide (0 < n)) l d
theorem bytes8 {a0 a1 a2 a3 a4 a5 a6 a7 : Int} (h0 : (Lit.int .u8 a0).wf = true) (h1 : (Lit.int .u8 a1).wf = true) (h2 : (Lit.int .u8 a2).wf = true) (h3 : (Lit.int .u8 a3).wf = true) (h4 : (Lit.int .u8 a4).wf = true) (h5 : (Lit.int .u8 a5).wf = true) (h6 : (Lit.int .u8 a6).wf = true) (h7 : (Lit.int .u8 a7).wf = true) : Bytes [a0, a1, a2, a3, a4, a5, a6, a7] := by
  apply bytes_wf
  intro x hx
  simp only [List.mem_cons, List.not_mem_nil, or_false] at hx
  rcases hx with rfl | rfl | rfl | rfl | rfl | rfl | rfl | rfl <;> assumption
theorem digits_spec (k : Nat) (l : List Int) (hl : l.length ≤ 1048576) (hk : 2 * l.length + 1 < k) (a0 a1 a2 a3 a4 a5 a6 a7 : Int) (h : Bytes [a0, a1, a2, a3, a4, a5, a6, a7]) : spec_ValidDigits.f k l a0 a1 a2 a3 a4 a5 a6 a7 = some (digOK l [a0, a1, a2, a3, a4, a5, a6, a7]) := by
  unfold spec_ValidDigits.f spec_l01Digits.f digOK
  rw [ok_spec k l hl hk, digB_same l _ h]
  simp only [Option.bind_some]
  by_cases hv : validB l = true
  · rw [if_pos hv, hv, Bool.true_and]
  · rw [if_neg hv, Bool.eq_false_iff.mpr hv, Bool.false_and]
theorem digits_impl (l : List Int) (a0 a1 a2 a3 a4 a5 a6 a7 : Int) : impl_ValidDigits.f l a0 a1 a2 a3 a4 a5 a6 a7 = some (digOK l [a0, a1, a2, a3, a4, a5, a6, a7]) := rfl
theorem digOK_valid {l d : List Int} (h : digOK l d = true) : validB l = true := by
  simp only [digOK, Bool.and_eq_true] at h
  exact h.1
def valP : List Int → List Int → Int
  | [], _ => 0
  | _ :: _, [] => 0
  | b :: l, n :: d => n + b * valP l d
/-- Digits that fit their bases. -/
def Fits : List Int → List Int → Prop
  | [], _ => True
  | _ :: _, [] => False
  | b :: l, n :: d => (0 ≤ n ∧ n < b) ∧ Fits l d
theorem fits_of {bad : Int → Bool} {l d : List Int} (h : digB bad l d = true) (hb : Bytes d) (hl : l.length ≤ d.length) : Fits l d := by
  induction l generalizing d with
  | nil => trivial
  | cons b l ih =>
    cases d with
    | nil => simp at hl
    | cons n d =>
      simp only [digB, Bool.and_eq_true, decide_eq_true_eq] at h
      exact ⟨⟨(hb n (by simp)).1, h.1⟩, ih h.2 (fun x hx => hb x (by simp [hx])) (by simpa using hl)⟩
theorem Fits.take {l d : List Int} (h : Fits l d) (i : Nat) : Fits (l.take i) d := by
  induction l generalizing d i with
  | nil => simp [Fits]
  | cons b l ih =>
    cases i with
    | zero => simp [Fits]
    | succ i =>
      cases d with
      | nil => exact h.elim
      | cons n d => exact ⟨h.1, ih h.2 i⟩
theorem Fits.at {l d : List Int} (h : Fits l d) (i : Nat) (hi : i < l.length) : 0 ≤ d.getD i 0 ∧ d.getD i 0 < l.getD i 0 := by
  induction l generalizing d i with
  | nil => simp at hi
  | cons b l ih =>
    cases d with
    | nil => exact h.elim
    | cons n d =>
      cases i with
      | zero => simpa using h.1
      | succ i => simpa using ih h.2 i (by simpa using hi)
theorem valP_bd {l d : List Int} (hb : ∀ b ∈ l, 2 ≤ b ∧ b ≤ 100) (h : Fits l d) : 0 ≤ valP l d ∧ valP l d < prodZ l := by
  induction l generalizing d with
  | nil => simp [valP, prodZ]
  | cons b l ih =>
    cases d with
    | nil => exact h.elim
    | cons n d =>
      have hb0 := hb b (by simp)
      obtain ⟨h1, h2⟩ := ih (fun c hc => hb c (by simp [hc])) h.2
      have h3 := h.1
      simp only [valP, prodZ]
      have m0 : 0 ≤ b * valP l d := Int.mul_nonneg (by omega) h1
      have m1 : b * (valP l d + 1) ≤ b * prodZ l := Int.mul_le_mul_of_nonneg_left (by omega) (by omega)
      rw [Int.mul_add] at m1
      omega
theorem prodZ_snoc (l : List Int) (b : Int) : prodZ (l ++ [b]) = prodZ l * b := by
  induction l with
  | nil => simp [prodZ]
  | cons c l ih => simp [prodZ, ih, Int.mul_assoc]
theorem take_snoc' (l : List Int) (i : Nat) (h : i < l.length) : l.take (i + 1) = l.take i ++ [l.getD i 0] := by
  rw [List.take_succ_eq_append_getElem h]
  simp [List.getD, List.getElem?_eq_getElem h]
theorem valP_snoc (l d : List Int) (b : Int) (h : l.length < d.length) : valP (l ++ [b]) d = valP l d + prodZ l * d.getD l.length 0 := by
  induction l generalizing d with
  | nil =>
    cases d with
    | nil => simp at h
    | cons n d => simp [valP, prodZ]
  | cons c l ih =>
    cases d with
    | nil => simp at h
    | cons n d =>
      have := ih d (by simpa using h)
      simp only [List.cons_append, valP, prodZ, this, List.length_cons, List.getD_cons_succ]
      rw [Int.mul_add, Int.mul_assoc, Int.add_assoc]
theorem valP_next (l d : List Int) (i : Nat) (hi : i < l.length) (hd : l.length ≤ d.length) : valP (l.take (i + 1)) d = valP (l.take i) d + prodZ (l.take i) * d.getD i 0 := by
  have e : (l.take i).length = i := by rw [List.length_take]; omega
  have := valP_snoc (l.take i) d (l.getD i 0) (by omega)
  rw [take_snoc' l i hi, this, e]
theorem prodZ_next (l : List Int) (i : Nat) (hi : i < l.length) : prodZ (l.take (i + 1)) = prodZ (l.take i) * l.getD i 0 := by
  rw [take_snoc' l i hi, prodZ_snoc]
theorem bases_take {l : List Int} (hb : ∀ b ∈ l, 2 ≤ b ∧ b ≤ 100) (i : Nat) : ∀ b ∈ l.take i, 2 ≤ b ∧ b ≤ 100 := fun b h => hb b (List.mem_of_mem_take h)
theorem bases_at {l : List Int} (hb : ∀ b ∈ l, 2 ≤ b ∧ b ≤ 100) (i : Nat) (hi : i < l.length) : 2 ≤ l.getD i 0 ∧ l.getD i 0 ≤ 100 := by
  have : l.getD i 0 = l[i] := by simp [List.getD, List.getElem?_eq_getElem hi]
  rw [this]
  exact hb _ (List.getElem_mem hi)
theorem valDown_eq (l d : List Int) (hb : ∀ b ∈ l, 2 ≤ b ∧ b ≤ 100) (hf : Fits l d) (hd : l.length ≤ d.length) : ∀ (i : Nat) (n : Int), i ≤ l.length → 0 ≤ n → (n + 1) * prodZ (l.take i) ≤ 1000000000000 → valDown l d i n = n * prodZ (l.take i) + valP (l.take i) d := by
  intro i
  induction i with
  | zero =>
    intro n _ _ _
    simp [valDown, prodZ, valP]
  | succ i ih =>
    intro n hi h0 hn
    have hp := prodZ_pos (bases_take hb i)
    have hbi := bases_at hb i (by omega)
    have hdi := hf.at i (by omega)
    rw [prodZ_next l i (by omega)] at hn
    have hrl : rd l (i : Int) = l.getD i 0 := by simp [rd]
    have hrd : rd d (i : Int) = d.getD i 0 := by simp [rd]
    simp only [valDown]
    rw [hrl, hrd]
    generalize hB : l.getD i 0 = b at *
    generalize hQ : d.getD i 0 = q at *
    generalize hP : prodZ (l.take i) = p at *
    have hc : (n + 1) * (p * b) = ((n + 1) * b) * p := by rw [Int.mul_comm p b, Int.mul_assoc]
    have g1 : (n + 1) * b * 1 ≤ (n + 1) * b * p := Int.mul_le_mul_of_nonneg_left hp (Int.mul_nonneg (by omega) (by omega))
    have g2 : (n + 1) * b = n * b + b := by rw [Int.add_mul]; omega
    have g3 : 0 ≤ n * b := Int.mul_nonneg h0 (by omega)
    have e1 : wrap64 b = b := wr (by omega)
    have e2 : wrap64 (n * b) = n * b := wr (by omega)
    have e3 : wrap64 q = q := wr (by omega)
    have e4 : wrap64 (n * b + q) = n * b + q := wr (by omega)
    rw [e1, e2, e3, e4]
    have g4 : (n * b + q + 1) * p ≤ (n + 1) * b * p := Int.mul_le_mul_of_nonneg_right (by omega) (by omega)
    rw [ih (n * b + q) (by omega) (by omega) (by omega), prodZ_next l i (by omega), valP_next l d i (by omega) hd, hP, hB, hQ, Int.add_mul, Int.mul_assoc, Int.mul_comm b p, Int.mul_comm q p]
    omega
theorem valZ_eq {l d : List Int} (hv : digOK l d = true) (hb : Bytes d) (hd : d.length = 8) : valZ l d = valP l d ∧ 0 ≤ valP l d ∧ valP l d < prodZ l := by
  have h1 := digOK_valid hv
  have h8 := (validB_len h1).2
  simp only [digOK, Bool.and_eq_true] at hv
  have hf := fits_of hv.2 hb (by omega)
  have hp := sizeZ_prod h1
  have e := valDown_eq l d (validB_base h1) hf (by omega) l.length 0 (Nat.le_refl _) (by omega) (by rw [List.take_length]; omega)
  rw [List.take_length] at e
  have bd := valP_bd (validB_base h1) hf
  unfold valZ
  exact ⟨by omega, bd.1, bd.2⟩
theorem place_spec (k : Nat) (l : List Int) (a : Int) (hl : l.length ≤ 1048576) (hk : l.length < k) (h0 : 0 ≤ a) (h1 : a ≤ l.length) : spec_l01Place.f k l a = some (sizeZ (l.take a.toNat)) := by
  unfold spec_l01Place.f
  have := List.length_take_le a.toNat l
  have h2 : (l.take a.toNat).length ≤ l.length := by rw [List.length_take]; omega
  rw [if_pos h0, if_pos h1, size_spec k _ (by omega) (by omega)]
  rfl
theorem place_impl (k : Nat) (l : List Int) (a : Int) (hl : l.length ≤ 1048576) (hk : l.length < k) (h0 : 0 ≤ a) (h1 : a ≤ l.length) : impl_Stack_place.f k l a = some (sizeZ (l.take a.toNat)) := by
  unfold impl_Stack_place.f
  have h2 : (l.take a.toNat).length ≤ l.length := by rw [List.length_take]; omega
  rw [if_pos h0, if_pos h1, size_eq _ (by omega) k (by omega)]
  rfl
theorem down1_floor (a b : Int) (hb : 1 ≤ b) : spec_l01Down.f a b = impl_floor.f a b := by
  unfold spec_l01Down.f impl_floor.f
  have hbn : ¬ b = 0 := by omega
  simp only [if_neg hbn]
  have hb0 : decide (b < 0) = false := decide_eq_false (by omega)
  by_cases hs : 0 ≤ a
  · have h := Int.tmod_nonneg b hs
    have hd : decide (a < 0) = false := decide_eq_false (by omega)
    rw [if_neg (by omega), hd, hb0]
    split <;> simp
  · have hd : decide (a < 0) = true := decide_eq_true (by omega)
    have n2 : Int.tmod a b = -((-a) % b) := by
      rw [← Int.tmod_eq_emod_of_nonneg (show 0 ≤ -a by omega), Int.neg_tmod, Int.neg_neg]
    have f2 := Int.emod_nonneg (-a) (show b ≠ 0 by omega)
    rw [hd, hb0, n2]
    by_cases hz : (-a) % b = 0
    · rw [if_neg (by omega), if_pos (by omega)]
    · have c1 : -(-a % b) < 0 := by omega
      have c2 : ¬ -(-a % b) = 0 := by omega
      rw [if_pos c1, if_neg c2, if_pos (by rfl)]
theorem size_take {l : List Int} (hb : ∀ b ∈ l, 2 ≤ b ∧ b ≤ 100) (i : Nat) : 1 ≤ sizeZ (l.take i) ∧ sizeZ (l.take i) ≤ 1000000000001 := by
  have h1 := prodZ_pos (bases_take hb i)
  have e : sizeZ (l.take i) = mn (1 * prodZ (l.take i)) 1000000000001 := sizeFrom_eq (bases_take hb i) 1 (by omega) (by omega)
  rw [e, Int.one_mul]
  unfold mn
  split <;> omega
/-- Both reckonings agree, wheel by wheel. -/
theorem mv_same (k : Nat) (l : List Int) (V n : Int) (hl : l.length ≤ 1048576) (hk : l.length < k) (hb : ∀ b ∈ l, 2 ≤ b ∧ b ≤ 100) (hV : 0 ≤ V ∧ V < 1000000000000) (hn : -1000000000000 ≤ n ∧ n ≤ 1000000000000) :
    ∀ i : Nat, i ≤ l.length → ∃ o, mvS k l V n i = some o ∧ mvI k l V n i = some o := by
  intro i
  induction i with
  | zero => exact fun _ => ⟨_, rfl, rfl⟩
  | succ i ih =>
    intro hi
    obtain ⟨o, h1, h2⟩ := ih (by omega)
    have hs := size_take hb i
    have e1 := place_spec k l (i : Int) hl hk (by omega) (by omega)
    have e2 := place_impl k l (i : Int) hl hk (by omega) (by omega)
    rw [Int.toNat_natCast] at e1 e2
    generalize sizeZ (l.take i) = p at *
    have hw : wrap64 (V + n) = V + n := wr (by omega)
    have f1 := floor_eq (V + n) p hs.1 (by omega) (by omega)
    have f2 := floor_eq V p hs.1 (by omega) (by omega)
    have hq0 : 0 ≤ V / p := Int.ediv_nonneg hV.1 (by omega)
    have hq1 : V / p ≤ V := Int.ediv_le_self p hV.1
    have hq : wrap64 (V.tdiv p) = V / p := by rw [Int.tdiv_eq_ediv_of_nonneg hV.1, wr (by omega)]
    refine ⟨o.set i (wrap64 ((V + n) / p - V / p)), ?_, ?_⟩
    · simp only [mvS, h1, Option.bind_some, e1, hw, down1_floor _ p hs.1, f1, f2]
    · simp only [mvI, h2, Option.bind_some, e2, if_neg (show ¬ p = 0 by omega), hw, f1, hq]
theorem count_spec (n : Int) : spec_l01Count.f n = some (decide (-1000000000000 ≤ n ∧ n ≤ 1000000000000)) := by
  unfold spec_l01Count.f
  rw [in_spec]
  rfl
end Go.Proofs.Ytcapjgjjaolofaa.Core
