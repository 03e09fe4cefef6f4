/- Stacks in plain words: what the printed functions come to, but for the copy. -/
import Derived.Test.YtdgillfbdlmloaaGreatDoorGivV6
import Derived.Test.YtdgillfbdlmloaaGreatDoorPx4
import Derived.Test.YtdgillfbdlmloaaGreatDoorPx2
namespace Go.Proofs.YtdgillfbdlmloaaGreatDoor.Core
open Go.RowKit Go.Proofs.YtdgillfbdlmloaaGreatDoor.P Go.Proofs.YtdgillfbdlmloaaGreatDoorW.PrintWords Go.Proofs.YtdgillfbdlmloaaGreatDoorW.PrintMore

theorem wr {n : Int} (h : -9223372036854775808 ≤ n ∧ n ≤ 9223372036854775807) : wrap64 n = n := Go.IntWalk.wrap64_in n h
theorem wf64 {n : Int} (h : (Lit.int .i64 n).wf = true) : -9223372036854775808 ≤ n ∧ n ≤ 9223372036854775807 := by
  simp [Lit.wf, IntKind.min, IntKind.max, IntKind.signed, IntKind.bits] at h
  omega
theorem wf8 {n : Int} (h : (Lit.int .u8 n).wf = true) : 0 ≤ n ∧ n ≤ 255 := by
  simp [Lit.wf, IntKind.min, IntKind.max, IntKind.signed, IntKind.bits] at h
  omega
/-- All bytes. -/
def Bytes (l : List Int) : Prop := ∀ x ∈ l, 0 ≤ x ∧ x ≤ 255
theorem bytes_wf {l : List Int} (h : ∀ x ∈ l, (Lit.int .u8 x).wf = true) : Bytes l := fun x hx => wf8 (h x hx)
theorem Bytes.take {l : List Int} (h : Bytes l) (n : Nat) : Bytes (l.take n) := fun x hx => h x (List.mem_of_mem_take hx)
theorem bytes_rd {l : List Int} (h : Bytes l) (x : Int) (h0 : 0 ≤ x) (h1 : x < l.length) : 0 ≤ rd l x ∧ rd l x ≤ 255 := by
  have : rd l x = l[x.toNat]'(by omega) := by simp [rd, List.getD, List.getElem?_eq_getElem (show x.toNat < l.length by omega)]
  rw [this]
  exact h _ (List.getElem_mem _)

/-! ### A copy, and its comparison -/
theorem eqStack_rounds (l : List Int) (hl : l.length ≤ 1048576) : ∀ (d k : Nat) (x : Int), 0 ≤ x → x + d = l.length → d < k → laws_eqStack.l0 k l l x = some true := by
  intro d
  induction d with
  | zero =>
    intro k x h0 h1 hk
    obtain ⟨k, rfl⟩ : ∃ m, k = m + 1 := ⟨k - 1, by omega⟩
    simp only [laws_eqStack.l0]
    rw [if_neg (by omega)]
  | succ d ih =>
    intro k x h0 h1 hk
    obtain ⟨k, rfl⟩ : ∃ m, k = m + 1 := ⟨k - 1, by omega⟩
    simp only [laws_eqStack.l0]
    rw [if_pos (by omega), if_pos h0, if_pos (by omega), if_pos trivial, wr (by omega)]
    exact ih k (x + 1) (by omega) (by omega) (by omega)
theorem eqStack_self (k : Nat) (l : List Int) (hl : l.length ≤ 1048576) (hk : l.length < k) : laws_eqStack.f k l l = some true := by
  unfold laws_eqStack.f
  rw [if_pos rfl]
  exact eqStack_rounds l hl l.length k 0 (by omega) (by omega) hk

/-! ### The reference's size and its valid stacks -/
theorem min_spec (a b : Int) : spec_l00Min.f a b = some (mn a b) := by
  unfold spec_l00Min.f mn
  repeat' split
  all_goals first | rfl | (congr 1; omega)
theorem size_spec_rounds (l : List Int) (hl : l.length ≤ 1048576) : ∀ (d : Nat) (k : Nat) (x out : Int), 0 ≤ x → x + d = l.length → d < k → spec_l01Size.l0 k l out x = some (sizeFrom (l.drop x.toNat) out) := by
  intro d
  induction d with
  | zero =>
    intro k x out h0 h1 hk
    obtain ⟨k, rfl⟩ : ∃ m, k = m + 1 := ⟨k - 1, by omega⟩
    simp only [spec_l01Size.l0]
    rw [if_neg (by omega), List.drop_eq_nil_of_le (by omega)]
    rfl
  | succ d ih =>
    intro k x out h0 h1 hk
    obtain ⟨k, rfl⟩ : ∃ m, k = m + 1 := ⟨k - 1, by omega⟩
    simp only [spec_l01Size.l0]
    rw [if_pos (by omega), if_pos h0, min_spec]
    simp only [Option.bind_some]
    rw [wr (show -9223372036854775808 ≤ x + 1 ∧ x + 1 ≤ 9223372036854775807 by omega), ih k (x + 1) _ (by omega) (by omega) (by omega), drop_rd l x h0 (by omega)]
    rfl
theorem size_spec (k : Nat) (l : List Int) (hl : l.length ≤ 1048576) (hk : l.length < k) : spec_l01Size.f k l = some (sizeZ l) := by
  unfold spec_l01Size.f sizeZ
  rw [size_spec_rounds l hl l.length k 0 1 (by omega) (by omega) hk]
  rfl
theorem in_spec (a lo hi : Int) : spec_l00In.f a lo hi = some (decide (lo ≤ a ∧ a ≤ hi)) := by
  unfold spec_l00In.f
  by_cases h : lo ≤ a <;> simp [h]
theorem ok_rounds (l : List Int) (hl : l.length ≤ 1048576) (K : Nat) (hK : l.length < K) : ∀ (d : Nat) (k : Nat) (x : Int), 0 ≤ x → x + d = l.length → K + d < k → spec_l01Ok.l0 k l x = some (!((l.drop x.toNat).any badB) && decide (sizeZ l ≤ 1000000000000)) := by
  intro d
  induction d with
  | zero =>
    intro k x h0 h1 hk
    obtain ⟨k, rfl⟩ : ∃ m, k = m + 1 := ⟨k - 1, by omega⟩
    simp only [spec_l01Ok.l0]
    rw [if_neg (by omega), List.drop_eq_nil_of_le (by omega), size_spec k l hl (by omega)]
    rfl
  | succ d ih =>
    intro k x h0 h1 hk
    obtain ⟨k, rfl⟩ : ∃ m, k = m + 1 := ⟨k - 1, by omega⟩
    simp only [spec_l01Ok.l0]
    rw [if_pos (by omega), if_pos h0, drop_rd l x h0 (by omega), List.any_cons]
    by_cases h2 : rd l x < 2
    · rw [if_pos h2]
      simp [badB, h2]
    · rw [if_neg h2]
      by_cases h3 : rd l x > 100
      · rw [if_pos h3]
        simp [badB, show (100 : Int) < rd l x from h3]
      · rw [if_neg h3, wr (by omega), ih k (x + 1) (by omega) (by omega) (by omega)]
        simp [badB, h2, show ¬ (100 : Int) < rd l x from h3]
theorem ok_spec (k : Nat) (l : List Int) (hl : l.length ≤ 1048576) (hk : 2 * l.length + 1 < k) : spec_l01Ok.f k l = some (validB l) := by
  unfold spec_l01Ok.f validB
  rw [in_spec]
  simp only [Option.bind_some, decide_eq_true_eq]
  by_cases h : 1 ≤ (l.length : Int) ∧ (l.length : Int) ≤ 8
  · rw [if_pos h, ok_rounds l hl (l.length + 1) (by omega) l.length k 0 (by omega) (by omega) (by omega), decide_eq_true h]
    rfl
  · rw [if_neg h, decide_eq_false h]
    rfl
theorem validB_len {l : List Int} (h : validB l = true) : 1 ≤ l.length ∧ l.length ≤ 8 := by
  simp only [validB, Bool.and_eq_true, decide_eq_true_eq] at h
  omega
theorem validB_base {l : List Int} (h : validB l = true) : ∀ b ∈ l, 2 ≤ b ∧ b ≤ 100 := by
  simp only [validB, Bool.and_eq_true, decide_eq_true_eq, Bool.not_eq_true', List.any_eq_false] at h
  intro b hb
  have := h.2.1 b hb
  simp [badB] at this
  omega
theorem validB_size {l : List Int} (h : validB l = true) : sizeZ l ≤ 1000000000000 := by
  simp only [validB, Bool.and_eq_true, decide_eq_true_eq] at h
  exact h.2.2

/-! ### The size is the product -/
def prodZ : List Int → Int
  | [] => 1
  | b :: l => b * prodZ l
theorem prodZ_pos {l : List Int} (h : ∀ b ∈ l, 2 ≤ b ∧ b ≤ 100) : 1 ≤ prodZ l := by
  induction l with
  | nil => simp [prodZ]
  | cons b l ih =>
    have hb := h b (by simp)
    have hl := ih (fun c hc => h c (by simp [hc]))
    have : 1 * 1 ≤ b * prodZ l := Int.mul_le_mul (by omega) hl (by omega) (by omega)
    simpa [prodZ] using this
theorem sizeFrom_eq {l : List Int} (h : ∀ b ∈ l, 2 ≤ b ∧ b ≤ 100) : ∀ out : Int, 1 ≤ out → out ≤ 1000000000001 → sizeFrom l out = mn (out * prodZ l) 1000000000001 := by
  induction l with
  | nil =>
    intro out h1 h2
    simp only [sizeFrom, prodZ, Int.mul_one, mn]
    split <;> omega
  | cons b l ih =>
    intro out h1 h2
    have hb := h b (by simp)
    have hl := prodZ_pos (fun c hc => h c (List.mem_cons_of_mem b hc))
    have m1 : 1 * 1 ≤ out * b := Int.mul_le_mul h1 (by omega) (by omega) (by omega)
    have m2 : out * b ≤ 1000000000001 * 100 := Int.mul_le_mul h2 hb.2 (by omega) (by omega)
    have hw : wrap64 (out * wrap64 b) = out * b := by rw [wr (show -9223372036854775808 ≤ b ∧ b ≤ 9223372036854775807 by omega), wr (by omega)]
    simp only [sizeFrom, prodZ]
    rw [hw, ih (fun c hc => h c (by simp [hc])) _ (by unfold mn; split <;> omega) (by unfold mn; split <;> omega), ← Int.mul_assoc]
    by_cases hc : out * b ≤ 1000000000001
    · have : mn (out * b) 1000000000001 = out * b := by unfold mn; split <;> omega
      rw [this]
    · have e1 : mn (out * b) 1000000000001 = 1000000000001 := by unfold mn; split <;> omega
      rw [e1]
      have g1 : 1000000000001 * 1 ≤ 1000000000001 * prodZ l := Int.mul_le_mul (by omega) hl (by omega) (by omega)
      have g2 : 1000000000001 * 1 ≤ out * b * prodZ l := Int.mul_le_mul (by omega) hl (by omega) (by omega)
      unfold mn
      split <;> split <;> omega
theorem sizeZ_prod {l : List Int} (h : validB l = true) : sizeZ l = prodZ l ∧ 1 ≤ prodZ l ∧ prodZ l ≤ 1000000000000 := by
  have hb := validB_base h
  have hs := validB_size h
  have hp := prodZ_pos hb
  have e : sizeZ l = mn (1 * prodZ l) 1000000000001 := sizeFrom_eq hb 1 (by omega) (by omega)
  rw [Int.one_mul] at e
  unfold mn at e
  split at e <;> omega
end Go.Proofs.YtdgillfbdlmloaaGreatDoor.Core
