/- What a train is off behind some turns, by both texts. -/
import Derived.Test.YtdkkmoigampfoaaRatioCount
import Derived.Test.YtdkkmoigampfoaaPx14
import Derived.Test.YtdkkmoigampfoaaPx15
namespace Go.Proofs.Ytdkkmoigampfoaa.Core
open Go.RowKit Go.Proofs.Ytdkkmoigampfoaa.P Go.Proofs.YtdkkmoigampfoaaW.PrintWords
theorem after_both (k : Nat) (l : List S49) (p q a : Int) (hl : l.length ≤ 1048576) (hs : Shorts l) (hk : 1000000010 < k) : ∃ r, spec_OffAfter.f (k + 1) l p q a = some r ∧ impl_OffAfter.f (k + 1) l p q a = some r := by
  unfold spec_OffAfter.f impl_OffAfter.f impl_ValidTrain.f
  rw [train_spec (k + 1) l hl hs (by omega), ok_spec (k + 1) p q (by omega), ok_impl (k + 1) p q (by omega)]
  simp only [Option.bind_some]
  by_cases h : trainB l = true
  · obtain ⟨P, Q, h1, h2, h3⟩ := of_both k l h hk
    have hQ : ¬ Q = 0 := by have := h3.1.2.1; omega
    by_cases h4 : okB p q = true
    · have hq : ¬ q = 0 := by have := okB_true.mp h4; omega
      simp only [if_pos h, h4, spec_OffAfter.j0, impl_OffAfter.j0, Bool.not_true, Bool.false_eq_true, if_false, countT_eq, within_eq, Option.bind_some, h1, impl_Train_off.f, h2, spec_l03Off.f, impl_Ratio_turns.f, if_neg hQ, if_neg hq, decide_eq_true_eq]
      split
      · exact ⟨_, rfl, rfl⟩
      · exact ⟨_, rfl, rfl⟩
    · have h5 : okB p q = false := by simpa using h4
      simp only [if_pos h, h5, spec_OffAfter.j0, impl_OffAfter.j0, Bool.not_false, if_true]
      exact ⟨_, rfl, rfl⟩
  · simp only [if_neg h, spec_OffAfter.j0, impl_OffAfter.j0, if_true]
    exact ⟨_, rfl, rfl⟩
end Go.Proofs.Ytdkkmoigampfoaa.Core
