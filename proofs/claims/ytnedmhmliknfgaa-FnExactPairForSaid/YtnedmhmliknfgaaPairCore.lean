/- A train of one pair: both texts. -/
import Derived.Test.YtnedmhmliknfgaaPx6
import Derived.Test.YtnedmhmliknfgaaPairOne
namespace Go.Proofs.Ytnedmhmliknfgaa.Core
open Go.RowKit Go.Proofs.Ytnedmhmliknfgaa.P Go.Proofs.YtnedmhmliknfgaaW.PrintWords Go.Proofs.YtnedmhmliknfgaaW.PrintMore
theorem pairFor_both (k : Nat) (P Q : Int) (hk : 1000000000 < k) : ∃ r c, spec_PairFor.f k P Q = some (r, c) ∧ impl_PairFor.f k P Q = some (r, c) ∧ r.length ≤ 1 := by
  unfold spec_PairFor.f impl_PairFor.f
  rw [ok_spec k P Q hk, ok_impl k P Q hk]
  simp only [Option.bind_some]
  by_cases h : okB P Q = true
  · have ho := okB_true.mp h
    simp only [if_pos h, pair_spec ho.1 ho.2.1 k (by omega), pair_impl ho.1 ho.2.1, Option.bind_some]
    by_cases hb : (pairZ P Q).2.2 = true
    · simp only [if_pos hb]
      exact ⟨_, _, rfl, rfl, by simp⟩
    · simp only [if_neg hb]
      exact ⟨_, _, rfl, rfl, by simp⟩
  · simp only [if_neg h]
    exact ⟨_, _, rfl, rfl, by simp⟩
end Go.Proofs.Ytnedmhmliknfgaa.Core
