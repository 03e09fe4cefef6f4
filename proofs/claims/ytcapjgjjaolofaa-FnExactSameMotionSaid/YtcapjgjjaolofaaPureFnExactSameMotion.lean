/- FnExactSameMotion: the program's SameMotion and the reference's return the same, for all arguments that the statement speaks of; no further condition. -/
import Derived.Test.YtcapjgjjaolofaaPx29
import Derived.Test.YtcapjgjjaolofaaMotCore
import Derived.Test.YtcapjgjjaolofaaSameMotCore
namespace Go.Proofs.Ytcapjgjjaolofaa.Pure
open Go.RowKit Go.Proofs.Ytcapjgjjaolofaa.P Go.Proofs.Ytcapjgjjaolofaa.Core Go.Proofs.YtcapjgjjaolofaaW.PrintWords Go.Proofs.YtcapjgjjaolofaaW.PrintLast Go.Proofs.YtcapjgjjaolofaaW.PrintMore

theorem FnExactSameMotion : laws_FnExactSameMotion.Pure := by
  intro l a m b hl0 _ ha0 _ hm0 _ hb0 _
  obtain ⟨k, hk⟩ : ∃ k : Nat, 3000000 < k := ⟨3000001, by omega⟩
  refine ⟨k, ?_⟩
  unfold laws_FnExactSameMotion.f
  rcases sz_room l a 1048576 (by omega) hl0 ha0 with h | ⟨r, h, hr, hl, ha⟩
  · rw [h]
    rfl
  · have hr' : ¬ r < 0 := by omega
    simp only [h, Option.bind_some, if_neg hr']
    rcases sz_room m b r hr hm0 hb0 with g | ⟨q, g, hq, hm, hb⟩
    · rw [g]
      rfl
    · have hq' : ¬ q < 0 := by omega
      simp only [g, Option.bind_some, if_neg hq', toM_eq k l a hl ha (by omega), toM_eq k m b hm hb (by omega), sameM_spec k l (cvJ a) m (cvJ b) hl (by omega), sameM_impl k l (cvJ a) m (cvJ b) hl (by rw [cvJ_len]; exact ha) (by omega), bne_self_eq_false, Bool.false_eq_true, if_false,
        eqM_self k l (cvJ a) hl (by rw [cvJ_len]; exact ha) (by omega), eqM_self k m (cvJ b) hm (by rw [cvJ_len]; exact hb) (by omega), if_true]
end Go.Proofs.Ytcapjgjjaolofaa.Pure
