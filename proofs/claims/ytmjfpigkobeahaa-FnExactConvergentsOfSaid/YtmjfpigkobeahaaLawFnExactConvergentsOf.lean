-- Written by wip/myprint.py out of the translation; Lean checks it.
import Derived.Test.YtmjfpigkobeahaaRows
import Derived.Test.YtmjfpigkobeahaaPx39
import Derived.Test.YtmjfpigkobeahaaPureFnExactConvergentsOf
import Derived.Test.YtmjfpigkobeahaaOpen
import Derived.WalkKit
import Derived.ProofKit
import Derived.OpenShut
import Derived.ShutString
import Derived.ChangeOld
import Derived.Below
import Derived.SizedLaws
namespace Go.Proofs.Ytmjfpigkobeahaa.fnExactConvergentsOf
open Go.ChangeShapes Go.WideShapes Go.ChangeAt Go.RowKit
open Go.ChangeMaps (open_string shut_string)
open Go.Proofs.Ytmjfpigkobeahaa Go.Proofs.Ytmjfpigkobeahaa.Open Go.Proofs.YtmjfpigkobeahaaW.PrintWords
set_option linter.unusedVariables false
theorem own : ownKnob Try.prog.godebug = none := by kernel_rfl
theorem laidOut : laidOutB Try.prog = true := by kernel_rfl
set_option maxRecDepth 100000 in
theorem lifted (os : Os) (started : os.Started) (H : Type) (enc : TypeId × Value → H) :
    ReturnsInHanded {} Try.checked os 5 .any (Rows.fnExactConvergentsOfSpec.pre6 enc Try.prog Try.f5 Rows.fnExactConvergentsOfRow.domain false) (Rows.fnExactConvergentsOfSpec.post enc Try.prog Try.f5 false true false false) := by
  refine returnsInHanded_of_change_sized (C := Try.checked) own started (by kernel_rfl) Try.func5
    (ChangeSpec.witness6 (enc := enc) (C := Try.checked) false ⟨#[], #[(.agg #[(.int .i64 0), (.int .i64 0)])], []⟩ 8 (by kernel_rfl) (by kernel_rfl) (by kernel_rfl) (by kernel_rfl)) ?_
  intro W base args ds gs before hval0 hW hcnd hsz0 _
  have hsz : (DataW.weightsEach Try.prog (Try.f5.params.toList ++ Rows.fnExactConvergentsOfSpec.plain.varTypes Try.prog) (ds ++ gs)).all (· ≤ reachBytes) = true := hsz0
  have hval : ∀ (j : Nat) t v, Try.f5.params[j]? = some t → args[j]? = some v → Value.okWide Try.prog W .any base t v := hval0
  have hW' := hW
  obtain ⟨p, q, hA0, hV, rfl, hfz, hnd⟩ := hW
  have hA : DataW.TrodAll enc Try.prog W 0 (fun _ => true) true Try.f5.params.toList args.toList ds p := hA0
  rw [Try.params5] at hA hval hsz
  obtain ⟨v0, vs0, d0, ds0, p0, q0, hargs, rfl, rfl, h0, r0⟩ := trodAll_cons hA
  obtain ⟨rfl, rfl, rfl⟩ := trodAll_nil r0
  obtain rfl : args = #[v0] := by cases args; simp_all
  obtain ⟨rfl, rfl⟩ := trodVars_none hV
  have k0 := h0
  have lt0 : ∀ x ∈ p0, x.block < W.heap.size := by obtain ⟨m, hm⟩ := k0; exact DataW.trod_lt m _ _ _ hm
  obtain ⟨cs0, rfl, _⟩ := okWide_struct Try.underlying23 (hval 0 23 v0 rfl rfl)
  obtain ⟨fu0, hf0⟩ := h0
  simp only [Value.cells] at hf0
  obtain ⟨⟨a0_0, a0_1⟩, hk0, hw0_0, hw0_1⟩ := ((opens_struct2 Try.underlying23 (by kernel_rfl) (by first | rfl | kernel_rfl) (by first | rfl | kernel_rfl) (opens_int Try.underlying2 (by kernel_rfl)) (opens_int Try.underlying2 (by kernel_rfl))) : Opens enc Try.prog W 23 _ _).2 _ _ _ hf0
  obtain ⟨z0_0, y0_0, e0_0, q0_0, r0_0⟩ := hk0
  obtain rfl := (show _ = [Value.int .i64 a0_0] from q0_0)
  obtain rfl := (show _ = [Value.int .i64 a0_1] from r0_0)
  obtain rfl : cs0 = #[.int .i64 a0_0, .int .i64 a0_1] := by cases cs0; simpa using e0_0
  clear hA0 hval0 hsz0 hsz
  obtain ⟨k, h⟩ := Pure.FnExactConvergentsOf a0_0 a0_1 hw0_0 hw0_1
  refine (P.laws_FnExactConvergentsOf.calls k a0_0 a0_1 true W  h).mono ?_
  rintro e W' ⟨rfl, hd⟩
  have bel : Below W.heap.size W W' := hd
  exact ⟨_, rfl, _, _, _, [], _, [], hW', trodAll_mk1 (shut_bool Try.underlying4 _), (trodAll_cons_mk (Below.trod laidOut (by kernel_rfl) (of_decide_eq_true (by kernel_rfl)) k0 bel lt0) trodAll_mk0), rfl, bel.frame _, fun h => by cases h⟩
theorem over : Rows.fnExactConvergentsOfRow.holds Try.pinned (OpenSpec.ofChange Rows.fnExactConvergentsOfSpec) :=
  OpenClaim.holds_of_wide 5 Try.f5 rfl rfl rfl rfl rfl rfl rfl ⟨rfl, rfl, rfl, rfl, rfl⟩ rfl rfl rfl rfl rfl (by kernel_rfl) Try.func5 (by kernel_rfl)
    (of_decide_eq_true (by kernel_rfl)) (by unfold Func.isWrapper; first | (rw [if_pos (by decide +kernel)]; kernel_rfl) | (rw [if_neg (by decide +kernel)]; exact ⟨rfl, rfl⟩))
    (fun os started H enc _ => lifted os started H enc)
theorem proved : Rows.FnExactConvergentsOfSaid := over
end Go.Proofs.Ytmjfpigkobeahaa.fnExactConvergentsOf
namespace Go.Proofs.Ytmjfpigkobeahaa
/-- The row, under a short name, for the claim. -/
theorem fnExactConvergentsOf_holds : Rows.FnExactConvergentsOfSaid := fnExactConvergentsOf.proved
#print axioms fnExactConvergentsOf_holds
end Go.Proofs.Ytmjfpigkobeahaa
