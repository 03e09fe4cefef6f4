-- Written by wip/myprint.py out of the translation; Lean checks it.
import Derived.Test.YtcapjgjjaolofaaRows
import Derived.Test.YtcapjgjjaolofaaPx26
import Derived.Test.YtcapjgjjaolofaaPureFnExactRightFrom
import Derived.Test.YtcapjgjjaolofaaOpen
import Derived.WalkKit
import Derived.ProofKit
import Derived.OpenShut
import Derived.ShutString
import Derived.ChangeOld
import Derived.Below
import Derived.SizedLaws
namespace Go.Proofs.Ytcapjgjjaolofaa.fnExactRightFrom
open Go.ChangeShapes Go.WideShapes Go.ChangeAt Go.RowKit
open Go.ChangeMaps (open_string shut_string)
open Go.Proofs.Ytcapjgjjaolofaa Go.Proofs.Ytcapjgjjaolofaa.Open Go.Proofs.YtcapjgjjaolofaaW.PrintWords
set_option linter.unusedVariables false
theorem own : ownKnob Try.prog.godebug = none := by kernel_rfl
theorem laidOut : laidOutB Try.prog = true := by kernel_rfl
set_option maxRecDepth 100000 in
theorem lifted (os : Os) (started : os.Started) (H : Type) (enc : TypeId × Value → H) :
    ReturnsInHanded {} Try.checked os 11 .any (Rows.fnExactRightFromSpec.pre6 enc Try.prog Try.f11 Rows.fnExactRightFromRow.domain false) (Rows.fnExactRightFromSpec.post enc Try.prog Try.f11 false true false false) := by
  refine returnsInHanded_of_change_sized (C := Try.checked) own started (by kernel_rfl) Try.func11
    (ChangeSpec.witness6 (enc := enc) (C := Try.checked) false ⟨#[], #[(.agg #[(.slice none 0 0), (.slice none 0 0)]), (.agg #[(.int .i64 0), (.int .i64 0), (.int .i64 0), (.int .i64 0), (.int .i64 0), (.int .i64 0), (.int .i64 0), (.int .i64 0)])], []⟩ 8 (by kernel_rfl) (by kernel_rfl) (by kernel_rfl) (by kernel_rfl)) ?_
  intro W base args ds gs before hval0 hW hcnd hsz0 _
  have hsz : (DataW.weightsEach Try.prog (Try.f11.params.toList ++ Rows.fnExactRightFromSpec.plain.varTypes Try.prog) (ds ++ gs)).all (· ≤ reachBytes) = true := hsz0
  have hval : ∀ (j : Nat) t v, Try.f11.params[j]? = some t → args[j]? = some v → Value.okWide Try.prog W .any base t v := hval0
  have hW' := hW
  obtain ⟨p, q, hA0, hV, rfl, hfz, hnd⟩ := hW
  have hA : DataW.TrodAll enc Try.prog W 0 (fun _ => true) true Try.f11.params.toList args.toList ds p := hA0
  rw [Try.params11] at hA hval hsz
  obtain ⟨v0, vs0, d0, ds0, p0, q0, hargs, rfl, rfl, h0, r0⟩ := trodAll_cons hA
  obtain ⟨v1, vs1, d1, ds1, p1, q1, rfl, rfl, rfl, h1, r1⟩ := trodAll_cons r0
  obtain ⟨rfl, rfl, rfl⟩ := trodAll_nil r1
  obtain rfl : args = #[v0, v1] := by cases args; simp_all
  obtain ⟨rfl, rfl⟩ := trodVars_none hV
  have k0 := h0
  have lt0 : ∀ x ∈ p0, x.block < W.heap.size := by obtain ⟨m, hm⟩ := k0; exact DataW.trod_lt m _ _ _ hm
  obtain ⟨cs0, rfl, _⟩ := okWide_struct Try.underlying40 (hval 0 40 v0 rfl rfl)
  obtain ⟨fu0, hf0⟩ := h0
  simp only [Value.cells] at hf0
  obtain ⟨⟨l0_0, l0_1⟩, hk0, ⟨hm0_0, hw0_0⟩, ⟨hm0_1, hw0_1⟩⟩ := ((opens_struct2 Try.underlying40 (by kernel_rfl) (by first | rfl | kernel_rfl) (by first | rfl | kernel_rfl) (opens_slice Try.underlying22 (by kernel_rfl) (opens_int Try.underlying5 (by kernel_rfl))) (opens_slice Try.underlying38 (by kernel_rfl) (opens_iso (P := Try.prog) (fun x : P.S109 => (x.f0, x.f1)) (fun x => (⟨x.1, x.2⟩ : P.S109)) (fun _ => rfl) (opens_struct2 Try.underlying109 (by kernel_rfl) (by first | rfl | kernel_rfl) (by first | rfl | kernel_rfl) (opens_int Try.underlying85 (by kernel_rfl)) (opens_int Try.underlying86 (by kernel_rfl)))))) : Opens enc Try.prog W 40 _ _).2 _ _ _ hf0
  obtain ⟨z0_0, y0_0, e0_0, q0_0, r0_0⟩ := hk0
  obtain ⟨A0_0, c0_0, rfl, hc0_0, hr0_0⟩ := (show ∃ A c, _ = [Value.slice A l0_0.length c] ∧ l0_0.length ≤ c ∧ Kd.C (Kd.int .u8) W A l0_0.length l0_0 from q0_0)
  obtain ⟨A0_1, c0_1, rfl, hc0_1, hr0_1⟩ := (show ∃ A c, _ = [Value.slice A l0_1.length c] ∧ l0_1.length ≤ c ∧ Kd.C P.k109 W A l0_1.length l0_1 from r0_0)
  obtain rfl : cs0 = #[.slice A0_0 l0_0.length c0_0, .slice A0_1 l0_1.length c0_1] := by cases cs0; simpa using e0_0
  have k1 := h1
  have lt1 : ∀ x ∈ p1, x.block < W.heap.size := by obtain ⟨m, hm⟩ := k1; exact DataW.trod_lt m _ _ _ hm
  obtain ⟨cs1, rfl, _⟩ := okWide_arr Try.underlying24 (hval 1 24 v1 rfl rfl)
  obtain ⟨fu1, hf1⟩ := h1
  simp only [Value.cells] at hf1
  obtain ⟨l1, el1, e1, hw1⟩ := open_arr Try.underlying24 Try.underlying2 (by kernel_rfl) (by kernel_rfl) hf1
  obtain ⟨a1_0, a1_1, a1_2, a1_3, a1_4, a1_5, a1_6, a1_7, rfl⟩ := list8 el1
  obtain rfl : cs1 = #[.int .i64 a1_0, .int .i64 a1_1, .int .i64 a1_2, .int .i64 a1_3, .int .i64 a1_4, .int .i64 a1_5, .int .i64 a1_6, .int .i64 a1_7] := by cases cs1; simpa using e1
  clear hA0 hval0 hsz0 hsz
  obtain ⟨k, h⟩ := Pure.FnExactRightFrom l0_0 l0_1 a1_0 a1_1 a1_2 a1_3 a1_4 a1_5 a1_6 a1_7 hm0_0 hw0_0 hm0_1 hw0_1 (hw1 a1_0 (by simp)) (hw1 a1_1 (by simp)) (hw1 a1_2 (by simp)) (hw1 a1_3 (by simp)) (hw1 a1_4 (by simp)) (hw1 a1_5 (by simp)) (hw1 a1_6 (by simp)) (hw1 a1_7 (by simp))
  refine (P.laws_FnExactRightFrom.calls k A0_0 c0_0 l0_0 A0_1 c0_1 l0_1 a1_0 a1_1 a1_2 a1_3 a1_4 a1_5 a1_6 a1_7 true W hr0_0 hc0_0 hr0_1 hc0_1 h).mono ?_
  rintro e W' ⟨rfl, hd⟩
  have bel : Below W.heap.size W W' := hd
  exact ⟨_, rfl, _, _, _, [], _, [], hW', trodAll_mk1 (shut_bool Try.underlying4 _), (trodAll_cons_mk (Below.trod laidOut (by kernel_rfl) (of_decide_eq_true (by kernel_rfl)) k0 bel lt0) (trodAll_cons_mk (Below.trod laidOut (by kernel_rfl) (of_decide_eq_true (by kernel_rfl)) k1 bel lt1) trodAll_mk0)), rfl, bel.frame _, fun h => by cases h⟩
theorem over : Rows.fnExactRightFromRow.holds Try.pinned (OpenSpec.ofChange Rows.fnExactRightFromSpec) :=
  OpenClaim.holds_of_wide 11 Try.f11 rfl rfl rfl rfl rfl rfl rfl ⟨rfl, rfl, rfl, rfl, rfl⟩ rfl rfl rfl rfl rfl (by kernel_rfl) Try.func11 (by kernel_rfl)
    (of_decide_eq_true (by kernel_rfl)) (by unfold Func.isWrapper; first | (rw [if_pos (by decide +kernel)]; kernel_rfl) | (rw [if_neg (by decide +kernel)]; exact ⟨rfl, rfl⟩))
    (fun os started H enc _ => lifted os started H enc)
theorem proved : Rows.FnExactRightFromSaid := over
end Go.Proofs.Ytcapjgjjaolofaa.fnExactRightFrom
namespace Go.Proofs.Ytcapjgjjaolofaa
/-- The row, under a short name, for the claim. -/
theorem fnExactRightFrom_holds : Rows.FnExactRightFromSaid := fnExactRightFrom.proved
#print axioms fnExactRightFrom_holds
end Go.Proofs.Ytcapjgjjaolofaa
