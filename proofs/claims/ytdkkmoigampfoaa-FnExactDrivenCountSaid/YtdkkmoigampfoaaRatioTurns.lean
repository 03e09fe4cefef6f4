/- A train's ratio and how far it turns, by both texts. -/
import Derived.Test.YtdkkmoigampfoaaRatioCount
import Derived.Test.YtdkkmoigampfoaaPx12
import Derived.Test.YtdkkmoigampfoaaPx13
namespace Go.Proofs.Ytdkkmoigampfoaa.Core
open Go.RowKit Go.Proofs.Ytdkkmoigampfoaa.P Go.Proofs.YtdkkmoigampfoaaW.PrintWords
theorem ratio_both (k : Nat) (l : List S49) (hl : l.length ≤ 1048576) (hs : Shorts l) (hk : 1000000010 < k) : ∃ r, spec_RatioOf.f k l = some r ∧ impl_RatioOf.f k l = some r := by
  unfold spec_RatioOf.f impl_RatioOf.f impl_ValidTrain.f
  rw [train_spec k l hl hs (by omega)]
  simp only [Option.bind_some]
  by_cases h : trainB l = true
  · obtain ⟨P, Q, h1, h2, _⟩ := of_both k l h hk
    simp only [if_pos h, h1, h2, Option.bind_some]
    exact ⟨_, rfl, rfl⟩
  · simp only [if_neg h]
    exact ⟨_, rfl, rfl⟩
theorem driven_both (k : Nat) (l : List S49) (a : Int) (hl : l.length ≤ 1048576) (hs : Shorts l) (hk : 1000000010 < k) : ∃ r, spec_DrivenCount.f k l a = some r ∧ impl_DrivenCount.f k l a = some r := by
  unfold spec_DrivenCount.f impl_DrivenCount.f impl_ValidTrain.f
  rw [train_spec k l hl hs (by omega), countT_eq, within_eq]
  simp only [Option.bind_some, decide_eq_true_eq]
  by_cases h : trainB l = true
  · obtain ⟨P, Q, h1, h2, h3⟩ := of_both k l h hk
    have hQ : ¬ Q = 0 := by have := h3.1.2.1; omega
    simp only [if_pos h, h1, h2, Option.bind_some, impl_Ratio_turns.f, if_neg hQ]
    split
    · exact ⟨_, rfl, rfl⟩
    · exact ⟨_, rfl, rfl⟩
  · simp only [if_neg h]
    exact ⟨_, rfl, rfl⟩
end Go.Proofs.Ytdkkmoigampfoaa.Core
