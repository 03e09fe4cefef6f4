/- FnExactLeastStack: the program's LeastStack and the reference's return the same, for all arguments that the statement speaks of; no further condition. -/
import Derived.Test.YtcapjgjjaolofaaPx22
import Derived.Test.YtcapjgjjaolofaaLeastCore
import Derived.Test.YtcapjgjjaolofaaMarkS
namespace Go.Proofs.Ytcapjgjjaolofaa.Pure
open Go.RowKit Go.Proofs.Ytcapjgjjaolofaa.P Go.Proofs.Ytcapjgjjaolofaa.Core Go.Proofs.YtcapjgjjaolofaaW.PrintWords Go.Proofs.YtcapjgjjaolofaaW.PrintLast Go.Proofs.YtcapjgjjaolofaaW.PrintMore

theorem FnExactLeastStack : laws_FnExactLeastStack.Pure := by
  intro a0 a1 _ _
  refine ⟨2002, ?_⟩
  obtain ⟨⟨r, c⟩, hr, h⟩ := least_both a0 a1
  have hr' : r.length ≤ 8 := hr
  obtain ⟨h1, h2⟩ := h 2002 (by omega)
  obtain ⟨_, h3⟩ := h 2001 (by omega)
  obtain ⟨l', m1, m2⟩ := markS 2001 r (by omega) (by omega)
  unfold laws_FnExactLeastStack.f
  simp only [Option.bind_some, h1, h2, eqStack_self 2002 r (by omega) (by omega), if_true, bne_self_eq_false, laws_FnExactLeastStack.j0, Bool.false_eq_true, if_false, m1, m2 2001 (by omega)]
  rw [if_neg (by omega)]
  simp only [h3, Option.bind_some, eqStack_self 2001 r (by omega) (by omega), if_true, bne_self_eq_false, laws_FnExactLeastStack.j1, Bool.false_eq_true, if_false, m2 2000 (by omega)]
  rw [if_neg (by omega)]
end Go.Proofs.Ytcapjgjjaolofaa.Pure
