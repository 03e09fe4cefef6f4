/- Two logs held against each other. -/
import Derived.Test.YtmjfpigkobeahaaLogCore
import Derived.Test.YtmjfpigkobeahaaPx20
import Derived.Test.YtmjfpigkobeahaaPx21
namespace Go.Proofs.Ytmjfpigkobeahaa.Core
open Go.RowKit Go.Proofs.Ytmjfpigkobeahaa.P Go.Proofs.YtmjfpigkobeahaaW.PrintWords Go.Proofs.YtmjfpigkobeahaaW.PrintMore
def sameT : List S91 → List S91 → Bool
  | p :: ps, q :: qs => if (!((p.f0) == (q.f0)) || (!((p.f1) == (q.f1)))) = true then false else sameT ps qs
  | _, _ => true
theorem same_rounds (a b : List S91) (hl : a.length ≤ 1048576) (he : a.length = b.length) : ∀ (d k : Nat) (x : Int), 0 ≤ x → x + d = a.length → d < k →
    spec_SameLog.l0 k a b x = some (sameT (a.drop x.toNat) (b.drop x.toNat)) ∧ impl_Reading.l0 k a b (a.length : Int) x = some (sameT (a.drop x.toNat) (b.drop x.toNat)) := by
  intro d
  induction d with
  | zero =>
    intro k x h0 h1 hk
    obtain ⟨k, rfl⟩ : ∃ m, k = m + 1 := ⟨k - 1, by omega⟩
    simp only [spec_SameLog.l0, impl_Reading.l0]
    rw [if_neg (by omega), if_neg (by omega), List.drop_eq_nil_of_le (by omega)]
    exact ⟨rfl, rfl⟩
  | succ d ih =>
    intro k x h0 h1 hk
    obtain ⟨k, rfl⟩ : ∃ m, k = m + 1 := ⟨k - 1, by omega⟩
    simp only [spec_SameLog.l0, impl_Reading.l0]
    have p1 : x < (a.length : Int) := by omega
    have p2 : x < (b.length : Int) := by omega
    rw [drop_rdP a x h0 p1, drop_rdP b x h0 p2]
    simp only [if_pos p1, if_pos p2, if_pos h0]
    simp only [sameT]
    split
    · exact ⟨rfl, rfl⟩
    · rw [wrT (by omega)]
      exact ih k (x + 1) (by omega) (by omega) (by omega)
theorem same_both (k : Nat) (a b : List S91) (hl : a.length ≤ 1048576) (hk : a.length < k) : ∃ r, spec_SameLog.f k a b = some r ∧ impl_SameLog.f k a b = some r := by
  unfold spec_SameLog.f impl_SameLog.f impl_Reading.f
  by_cases he : (a.length : Int) = b.length
  · have h := same_rounds a b hl (by omega) a.length k 0 (by omega) (by omega) hk
    rw [if_pos he, if_pos he, h.1, h.2]
    exact ⟨_, rfl, rfl⟩
  · rw [if_neg he, if_neg he]
    exact ⟨_, rfl, rfl⟩
end Go.Proofs.Ytmjfpigkobeahaa.Core
