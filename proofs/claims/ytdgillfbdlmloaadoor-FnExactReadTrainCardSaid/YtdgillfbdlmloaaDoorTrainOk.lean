/- Valid trains: both texts. -/
import Derived.Test.YtdgillfbdlmloaaDoorTrainE
import Derived.Test.YtdgillfbdlmloaaDoorPx8
namespace Go.Proofs.YtdgillfbdlmloaaDoor.Core
open Go.RowKit Go.Proofs.YtdgillfbdlmloaaDoor.P Go.Proofs.YtdgillfbdlmloaaDoorW.PrintWords Go.Proofs.YtdgillfbdlmloaaDoorW.PrintMore
theorem inT_eq (a lo hi : Int) : spec_l00In.f a lo hi = some (decide (lo ≤ a ∧ a ≤ hi)) := by
  unfold spec_l00In.f
  by_cases h : lo ≤ a <;> simp [h]
theorem teethT_eq (a : Int) : spec_l03Teeth.f a = some (teethB a) := by
  unfold spec_l03Teeth.f
  rw [inT_eq]
  rfl
theorem train_rounds (l : List S57) (hl : l.length ≤ 1048576) (hs : Shorts l) : ∀ (d k : Nat) (x : Int), 0 ≤ x → x + d = l.length → d < k → spec_l03Train.l0 k l x = some (!((l.drop x.toNat).any (fun p => badP p.f0 p.f1))) := by
  intro d
  induction d with
  | zero =>
    intro k x h0 h1 hk
    obtain ⟨k, rfl⟩ : ∃ m, k = m + 1 := ⟨k - 1, by omega⟩
    simp only [spec_l03Train.l0]
    rw [if_neg (by omega), List.drop_eq_nil_of_le (by omega)]
    rfl
  | succ d ih =>
    intro k x h0 h1 hk
    obtain ⟨k, rfl⟩ : ∃ m, k = m + 1 := ⟨k - 1, by omega⟩
    simp only [spec_l03Train.l0]
    have p1 : x < (l.length : Int) := by omega
    have b := hs _ (rdP_mem l x h0 p1)
    rw [if_pos p1, if_pos h0, drop_rdP l x h0 p1, wrT (n := (rd_T57 l x).f0) (by omega), wrT (n := (rd_T57 l x).f1) (by omega), teethT_eq, teethT_eq]
    simp only [Option.bind_some]
    by_cases c1 : teethB (rd_T57 l x).f0 = true
    · by_cases c2 : teethB (rd_T57 l x).f1 = true
      · rw [if_pos c1, if_pos c2, wrT (by omega), ih k (x + 1) (by omega) (by omega) (by omega)]
        simp [badP, c1, c2]
      · rw [if_pos c1, if_neg c2]
        simp [badP, c2]
    · rw [if_neg c1]
      simp [badP, c1]
theorem train_spec (k : Nat) (l : List S57) (hl : l.length ≤ 1048576) (hs : Shorts l) (hk : l.length < k) : spec_l03Train.f k l = some (trainB l) := by
  unfold spec_l03Train.f trainB
  rw [inT_eq, train_rounds l hl hs l.length k 0 (by omega) (by omega) hk]
  simp only [Option.bind_some, decide_eq_true_eq]
  by_cases h : 1 ≤ (l.length : Int) ∧ (l.length : Int) ≤ 4
  · rw [if_pos h, decide_eq_true h]
    rfl
  · rw [if_neg h, decide_eq_false h]
    rfl
theorem trainB_len {l : List S57} (h : trainB l = true) : 1 ≤ l.length ∧ l.length ≤ 4 := by
  simp only [trainB, Bool.and_eq_true, decide_eq_true_eq] at h
  omega
theorem trainB_all {l : List S57} (h : trainB l = true) : ∀ p ∈ l, (8 ≤ p.f0 ∧ p.f0 ≤ 120) ∧ (8 ≤ p.f1 ∧ p.f1 ≤ 120) := by
  intro p hp
  simp only [trainB, Bool.and_eq_true, Bool.not_eq_true', List.any_eq_false] at h
  have := h.2 p hp
  simp only [badP, teethB, Bool.or_eq_true, Bool.not_eq_true', decide_eq_false_iff_not, not_or, Classical.not_not] at this
  exact this
end Go.Proofs.YtdgillfbdlmloaaDoor.Core
