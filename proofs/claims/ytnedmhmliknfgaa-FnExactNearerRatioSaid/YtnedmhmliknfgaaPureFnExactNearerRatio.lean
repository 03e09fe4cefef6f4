/- FnExactNearerRatio: the program's NearerRatio and the reference's return the same, for all arguments that the statement speaks of; no further condition. -/
import Derived.Test.YtnedmhmliknfgaaPx22
import Derived.Test.YtnedmhmliknfgaaNear
namespace Go.Proofs.Ytnedmhmliknfgaa.Pure
open Go.RowKit Go.Proofs.Ytnedmhmliknfgaa.P Go.Proofs.Ytnedmhmliknfgaa.Core Go.Proofs.YtnedmhmliknfgaaW.PrintWords Go.Proofs.YtnedmhmliknfgaaW.PrintLast Go.Proofs.YtnedmhmliknfgaaW.PrintMore

theorem max_spec (a b : Int) : spec_l00Max.f a b = some (mx a b) := by
  unfold spec_l00Max.f mx
  repeat' split
  all_goals first | rfl | (congr 1; omega)
theorem mx_le (a b c : Int) : mx a b > c ↔ a > c ∨ b > c := by
  unfold mx
  split <;> omega
theorem FnExactNearerRatio : laws_FnExactNearerRatio.Pure := by
  intro P Q p q s t _ _ _ _ _ _
  refine ⟨1000000001 + 1, ?_⟩
  unfold laws_FnExactNearerRatio.f laws_toRatio.f spec_NearerRatio.f impl_NearerRatio.f
  generalize hk : 1000000001 = k
  simp only [Option.bind_some, ok_spec (k + 1) _ _ (by omega), ok_impl (k + 1) _ _ (by omega)]
  by_cases h1 : okB P Q = true
  · by_cases h2 : okB p q = true
    · by_cases h3 : okB s t = true
      · rw [if_pos h1, if_pos h1, if_pos h2, if_pos h2, h3]
        obtain ⟨⟨a1, a2⟩, ⟨a3, a4⟩, _⟩ := okB_true.mp h1
        obtain ⟨⟨b1, b2⟩, ⟨b3, b4⟩, _⟩ := okB_true.mp h2
        obtain ⟨⟨c1, c2⟩, ⟨c3, c4⟩, _⟩ := okB_true.mp h3
        simp only [spec_NearerRatio.j0, impl_NearerRatio.j0, Bool.not_true, Bool.false_eq_true, if_false, Option.bind_some, max_spec]
        by_cases hm : p > 1000 ∨ q > 1000 ∨ s > 1000 ∨ t > 1000
        · rw [if_pos (by simp only [mx_le]; omega), if_pos (by simp only [mx_le]; omega)]
          simp
        · rw [if_neg (by simp only [mx_le]; omega), if_neg (by simp only [mx_le]; omega)]
          have hs : Small p q := ⟨⟨by omega, by omega⟩, by omega, by omega⟩
          have hs' : Small s t := ⟨⟨by omega, by omega⟩, by omega, by omega⟩
          rw [nearer_spec ⟨by omega, by omega⟩ ⟨by omega, by omega⟩ hs hs', nearer_impl ⟨by omega, by omega⟩ ⟨by omega, by omega⟩ hs hs']
          simp
      · have h4 : okB s t = false := by simpa using h3
        rw [if_pos h1, if_pos h1, if_pos h2, if_pos h2, h4]
        simp [spec_NearerRatio.j0, impl_NearerRatio.j0]
    · rw [if_pos h1, if_pos h1, if_neg h2, if_neg h2]
      simp [spec_NearerRatio.j0, impl_NearerRatio.j0]
  · rw [if_neg h1, if_neg h1]
    simp [spec_NearerRatio.j0, impl_NearerRatio.j0]

end Go.Proofs.Ytnedmhmliknfgaa.Pure
