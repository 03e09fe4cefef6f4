/- FnExactReadMotion: the program's ReadMotion and the reference's return the same, for all arguments that the statement speaks of; no further condition. -/
import Derived.Test.YtdgillfbdlmloaaGreatDoorPx9
import Derived.Test.YtdgillfbdlmloaaGreatDoorMotRead
import Derived.Test.YtdgillfbdlmloaaGreatDoorMarkM
namespace Go.Proofs.YtdgillfbdlmloaaGreatDoor.Pure
open Go.RowKit Go.Proofs.YtdgillfbdlmloaaGreatDoor.P Go.Proofs.YtdgillfbdlmloaaGreatDoor.Core Go.Proofs.YtdgillfbdlmloaaGreatDoorW.PrintWords Go.Proofs.YtdgillfbdlmloaaGreatDoorW.PrintLast Go.Proofs.YtdgillfbdlmloaaGreatDoorW.PrintMore

theorem FnExactReadMotion : laws_FnExactReadMotion.Pure := by
  intro a0 _
  refine ⟨6000002, ?_⟩
  unfold laws_FnExactReadMotion.f
  by_cases hs : (a0.size : Int) > 1048576
  · rw [if_pos hs]
  · rw [if_neg hs]
    obtain ⟨⟨l, js, c⟩, h1, h2, hl, hj⟩ := readMotion_both 6000002 a0 (by omega) (by omega)
    have hl' : l.length ≤ 8 := hl
    have hj' : js.length ≤ 8 := hj
    obtain ⟨l', js', n, m1, m0, m2⟩ := markM 6000001 l js (by omega) (by omega) (by omega)
    simp only [Option.bind_some, h1, h2, eqM_self 6000002 l js (by omega) (by omega) (by omega), if_true, bne_self_eq_false, laws_FnExactReadMotion.j0, Bool.false_eq_true, if_false, m1, m2 6000001 (by omega)]
    rw [if_neg (by omega)]
    simp only [Option.bind_some, eqM_self 6000001 l js (by omega) (by omega) (by omega), if_true, laws_FnExactReadMotion.j1, Bool.false_eq_true, if_false, m2 6000000 (by omega)]
    rw [if_neg (by omega)]
end Go.Proofs.YtdgillfbdlmloaaGreatDoor.Pure
