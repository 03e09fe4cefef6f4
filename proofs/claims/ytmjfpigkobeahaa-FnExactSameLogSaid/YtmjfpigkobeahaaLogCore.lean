/- Logs in plain words: the laws' own helpers. -/
import Derived.Test.YtmjfpigkobeahaaPx20
import Derived.Test.YtmjfpigkobeahaaPx22
import Derived.IntWalk
namespace Go.Proofs.Ytmjfpigkobeahaa.Core
open Go.RowKit Go.Proofs.Ytmjfpigkobeahaa.P Go.Proofs.YtmjfpigkobeahaaW.PrintWords Go.Proofs.YtmjfpigkobeahaaW.PrintMore

theorem wrT {n : Int} (h : -9223372036854775808 ≤ n ∧ n ≤ 9223372036854775807) : wrap64 n = n := Go.IntWalk.wrap64_in n h
/-- The laws' readings as the program's. -/
def cvP (x : S93) : S91 := ⟨x.f0, x.f1⟩
def cv (l : List S93) : List S91 := l.map cvP
theorem cv_length (l : List S93) : (cv l).length = l.length := by simp [cv]
theorem drop_rdP (l : List S91) (x : Int) (h0 : 0 ≤ x) (h1 : x < (l.length : Int)) : l.drop x.toNat = rd_T91 l x :: l.drop (x + 1).toNat := by
  have e : (x + 1).toNat = x.toNat + 1 := by omega
  rw [e, List.drop_eq_getElem_cons (show x.toNat < l.length by omega)]
  simp [rd_T91, List.getD, List.getElem?_eq_getElem (show x.toNat < l.length by omega)]
theorem cv_at (l : List S93) (x : Int) (h0 : 0 ≤ x) (h1 : x < (l.length : Int)) : (cv l)[x.toNat]? = some ⟨(rd_T93 l x).f0, (rd_T93 l x).f1⟩ := by
  simp [cv, cvP, rd_T93, List.getD, List.getElem?_eq_getElem (show x.toNat < l.length by omega)]
theorem take_setG {α : Type} (o m : List α) (n : Nat) (v : α) (hn : n < o.length) (ht : o.take n = m.take n) (hv : m[n]? = some v) : (o.set n v).take (n + 1) = m.take (n + 1) := by
  rw [List.take_add_one, List.take_add_one, List.take_set_of_le (Nat.le_refl n), ht, hv, List.getElem?_set_self hn]

theorem szReadingS_eq (l : List S93) (a : Int) (ha : 0 ≤ a ∧ a ≤ 1048576) (hm0 : l.length ≤ maxLen) : laws_szReadingS.f l a = some (if a < l.length then -1 else a - l.length) := by
  have hm : l.length ≤ 9223372036854775807 := hm0
  unfold laws_szReadingS.f
  rw [wrT (by omega)]
  by_cases h : a < l.length
  · rw [if_pos (by omega), if_pos h]
  · rw [if_neg (by omega), if_neg h]
theorem toReadingS_rounds (l : List S93) (hl : l.length ≤ 1048576) : ∀ (d k : Nat) (o : List S91) (x : Int), 0 ≤ x → x + d = l.length → o.length = l.length → o.take x.toNat = (cv l).take x.toNat → d < k → laws_toReadingS.l0 k l o x = some (cv l) := by
  intro d
  induction d with
  | zero =>
    intro k o x h0 h1 ho ht hk
    obtain ⟨k, rfl⟩ : ∃ m, k = m + 1 := ⟨k - 1, by omega⟩
    simp only [laws_toReadingS.l0]
    rw [if_neg (by omega)]
    rw [List.take_of_length_le (by omega), List.take_of_length_le (by rw [cv_length]; omega)] at ht
    rw [ht]
  | succ d ih =>
    intro k o x h0 h1 ho ht hk
    obtain ⟨k, rfl⟩ : ∃ m, k = m + 1 := ⟨k - 1, by omega⟩
    simp only [laws_toReadingS.l0, laws_toReading.f, Option.bind_some]
    rw [if_pos (by omega), if_pos h0, if_pos (by omega), wrT (by omega)]
    refine ih k _ (x + 1) (by omega) (by omega) (by rw [List.length_set, ho]) ?_ (by omega)
    rw [show (x + 1).toNat = x.toNat + 1 by omega]
    exact take_setG o (cv l) x.toNat _ (by omega) ht (cv_at l x h0 (by omega))
theorem toReadingS_eq (k : Nat) (l : List S93) (hl : l.length ≤ 1048576) (hk : l.length < k) : laws_toReadingS.f k l = some (cv l) := by
  unfold laws_toReadingS.f
  rw [if_pos (by omega), if_pos (by omega)]
  exact toReadingS_rounds l hl l.length k _ 0 (by omega) (by omega) (by simp) rfl hk
theorem eqReadingS_rounds (l : List S91) (hl : l.length ≤ 1048576) : ∀ (d k : Nat) (x : Int), 0 ≤ x → x + d = l.length → d < k → laws_eqReadingS.l0 k l l x = some true := by
  intro d
  induction d with
  | zero =>
    intro k x h0 h1 hk
    obtain ⟨k, rfl⟩ : ∃ m, k = m + 1 := ⟨k - 1, by omega⟩
    simp only [laws_eqReadingS.l0]
    rw [if_neg (by omega)]
  | succ d ih =>
    intro k x h0 h1 hk
    obtain ⟨k, rfl⟩ : ∃ m, k = m + 1 := ⟨k - 1, by omega⟩
    simp only [laws_eqReadingS.l0, laws_eqReading.f, if_true, Option.bind_some]
    rw [if_pos (by omega), if_pos h0, if_pos (by omega), wrT (by omega)]
    exact ih k (x + 1) (by omega) (by omega) (by omega)
theorem eqReadingS_self (k : Nat) (l : List S91) (hl : l.length ≤ 1048576) (hk : l.length < k) : laws_eqReadingS.f k l l = some true := by
  unfold laws_eqReadingS.f
  rw [if_pos rfl]
  exact eqReadingS_rounds l hl l.length k 0 (by omega) (by omega) hk
end Go.Proofs.Ytmjfpigkobeahaa.Core
