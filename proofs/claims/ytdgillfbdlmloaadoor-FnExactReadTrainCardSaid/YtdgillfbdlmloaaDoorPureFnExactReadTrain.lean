/- FnExactReadTrain: the program's ReadTrain and the reference's return the same, for all arguments that the statement speaks of; no further condition. -/
import Derived.Test.YtdgillfbdlmloaaDoorPx23
import Derived.Test.YtdgillfbdlmloaaDoorTrainRead
import Derived.Test.YtdgillfbdlmloaaDoorMarkT6
namespace Go.Proofs.YtdgillfbdlmloaaDoor.Pure
open Go.RowKit Go.Proofs.YtdgillfbdlmloaaDoor.P Go.Proofs.YtdgillfbdlmloaaDoor.Core Go.Proofs.YtdgillfbdlmloaaDoorW.PrintWords Go.Proofs.YtdgillfbdlmloaaDoorW.PrintLast Go.Proofs.YtdgillfbdlmloaaDoorW.PrintMore

theorem FnExactReadTrain : laws_FnExactReadTrain.Pure := by
  intro a0 _
  refine ⟨6000002, ?_⟩
  unfold laws_FnExactReadTrain.f
  by_cases hs : (a0.size : Int) > 1048576
  · rw [if_pos hs]
  · rw [if_neg hs]
    obtain ⟨⟨r, c⟩, h1, h2, hr⟩ := readTrain_both 6000002 a0 (by omega) (by omega)
    have hr' : r.length ≤ 4 := hr
    obtain ⟨l', m1, m2⟩ := markT 6000001 r (by omega) (by omega)
    simp only [Option.bind_some, h1, h2, eqTrain_self 6000002 r (by omega) (by omega), if_true, bne_self_eq_false, laws_FnExactReadTrain.j0, Bool.false_eq_true, if_false, m1, m2 6000001 (by omega)]
    rw [if_neg (by omega)]
    simp only [Option.bind_some, eqTrain_self 6000001 r (by omega) (by omega), if_true, laws_FnExactReadTrain.j1, Bool.false_eq_true, if_false, m2 6000000 (by omega)]
    rw [if_neg (by omega)]
end Go.Proofs.YtdgillfbdlmloaaDoor.Pure
