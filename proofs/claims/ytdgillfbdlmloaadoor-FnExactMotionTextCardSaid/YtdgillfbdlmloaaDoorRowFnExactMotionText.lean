/- FnExactMotionText: the law's row, where the listed tables hold what the program's text lays, and its tied card; no further condition. -/
import Derived.Test.YtdgillfbdlmloaaDoorRows
import Derived.Test.YtdgillfbdlmloaaDoorDoorA
import Derived.Test.YtdgillfbdlmloaaDoorTie
import Derived.Test.YtdgillfbdlmloaaDoorCards
import Derived.LaidMore
import Derived.Stop.Joined
import Derived.SevenTiedAt
import Derived.Test.YtdgillfbdlmloaaDoorPx11
import Derived.Test.YtdgillfbdlmloaaDoorPureFnExactMotionText
import Derived.Test.YtdgillfbdlmloaaDoorOpen
import Derived.WalkKit
import Derived.ProofKit
import Derived.OpenShut
import Derived.ShutString
import Derived.ChangeOld
import Derived.Below
import Derived.SizedLaws
namespace Go.Proofs.YtdgillfbdlmloaaDoor.fnExactMotionText
open Go.ChangeShapes Go.WideShapes Go.ChangeAt Go.RowKit
open Go.ChangeMaps (open_string shut_string)
open Go.Proofs.YtdgillfbdlmloaaDoor Go.Proofs.YtdgillfbdlmloaaDoor.Open Go.Proofs.YtdgillfbdlmloaaDoorW.PrintWords
set_option linter.unusedVariables false
theorem own : ownKnob Tryd.prog.godebug = none := by kernel_rfl
theorem laidOut : laidOutB Tryd.prog = true := by kernel_rfl
set_option maxRecDepth 100000 in
theorem lifted (os : Os) (started : os.Started) (H : Type) (enc : TypeId × Value → H) :
    ReturnsInHanded {} Tryd.checked os 5 .any (fun w args => (Rows.fnExactMotionTextSpec.pre enc Tryd.prog Tryd.f5 [] false w args ∧ laidMetH Tryd.prog Door.laid3 w) ∧ sizedMet enc Tryd.prog Tryd.f5 (OpenSpec.ofChange Rows.fnExactMotionTextSpec) false w args) (Rows.fnExactMotionTextSpec.post enc Tryd.prog Tryd.f5 false true false false) := by
  refine returnsInHanded_of_change_and (C := Tryd.checked) (X := fun w _ => laidMetH Tryd.prog Door.laid3 w) (fun _ _ _ hh h => h.of_heap hh) own started (by kernel_rfl) Tryd.func5
    (ChangeSpec.witness_shaped (enc := enc) (C := Tryd.checked) (os := os) (X := fun w _ => laidMetH Tryd.prog Door.laid3 w) false (World.doorLaid Tryd.prog 400 os) #[(.agg #[(.slice none 0 0), (.slice none 0 0)])] 8 rfl (World.shaped_of_RefB (by kernel_rfl) (by kernel_rfl)) (by kernel_rfl) (by kernel_rfl) (by kernel_rfl) (Door.door_met os _)) ?_
  intro W base args ds gs before hval0 hW _ hsz0 hL _
  have htab := Door.tab_of_laid hL
  have hsz : (DataW.weightsEach Tryd.prog (Tryd.f5.params.toList ++ Rows.fnExactMotionTextSpec.plain.varTypes Tryd.prog) (ds ++ gs)).all (· ≤ reachBytes) = true := hsz0
  have hval : ∀ (j : Nat) t v, Tryd.f5.params[j]? = some t → args[j]? = some v → Value.okWide Tryd.prog W .any base t v := hval0
  have hW' := hW
  obtain ⟨p, q, hA0, hV, rfl, hfz, hnd⟩ := hW
  have hA : DataW.TrodAll enc Tryd.prog W 0 (fun _ => true) true Tryd.f5.params.toList args.toList ds p := hA0
  rw [Tryd.params5] at hA hval hsz
  obtain ⟨v0, vs0, d0, ds0, p0, q0, hargs, rfl, rfl, h0, r0⟩ := trodAll_cons hA
  obtain ⟨rfl, rfl, rfl⟩ := trodAll_nil r0
  obtain rfl : args = #[v0] := by cases args; simp_all
  obtain ⟨rfl, rfl⟩ := trodVars_none hV
  have k0 := h0
  have lt0 : ∀ x ∈ p0, x.block < W.heap.size := by obtain ⟨m, hm⟩ := k0; exact DataW.trod_lt m _ _ _ hm
  obtain ⟨cs0, rfl, _⟩ := okWide_struct Tryd.underlying38 (hval 0 38 v0 rfl rfl)
  obtain ⟨fu0, hf0⟩ := h0
  simp only [Value.cells] at hf0
  obtain ⟨⟨l0_0, l0_1⟩, hk0, ⟨hm0_0, hw0_0⟩, ⟨hm0_1, hw0_1⟩⟩ := ((opens_struct2 Tryd.underlying38 (by kernel_rfl) (by first | rfl | kernel_rfl) (by first | rfl | kernel_rfl) (opens_slice Tryd.underlying30 (by kernel_rfl) (opens_int Tryd.underlying5 (by kernel_rfl))) (opens_slice Tryd.underlying36 (by kernel_rfl) (opens_iso (P := Tryd.prog) (fun x : P.S114 => (x.f0, x.f1)) (fun x => (⟨x.1, x.2⟩ : P.S114)) (fun _ => rfl) (opens_struct2 Tryd.underlying114 (by kernel_rfl) (by first | rfl | kernel_rfl) (by first | rfl | kernel_rfl) (opens_int Tryd.underlying75 (by kernel_rfl)) (opens_int Tryd.underlying55 (by kernel_rfl)))))) : Opens enc Tryd.prog W 38 _ _).2 _ _ _ hf0
  obtain ⟨z0_0, y0_0, e0_0, q0_0, r0_0⟩ := hk0
  obtain ⟨A0_0, c0_0, rfl, hc0_0, hr0_0⟩ := (show ∃ A c, _ = [Value.slice A l0_0.length c] ∧ l0_0.length ≤ c ∧ Kd.C (Kd.int .u8) W A l0_0.length l0_0 from q0_0)
  obtain ⟨A0_1, c0_1, rfl, hc0_1, hr0_1⟩ := (show ∃ A c, _ = [Value.slice A l0_1.length c] ∧ l0_1.length ≤ c ∧ Kd.C P.k114 W A l0_1.length l0_1 from r0_0)
  obtain rfl : cs0 = #[.slice A0_0 l0_0.length c0_0, .slice A0_1 l0_1.length c0_1] := by cases cs0; simpa using e0_0
  clear hA0 hval0 hsz0 hsz
  obtain ⟨k, h⟩ := Pure.FnExactMotionText l0_0 l0_1 hm0_0 hw0_0 hm0_1 hw0_1
  refine (P.laws_FnExactMotionText.calls k A0_0 c0_0 l0_0 A0_1 c0_1 l0_1 true W hr0_0 hc0_0 hr0_1 hc0_1 h htab).mono ?_
  rintro e W' ⟨rfl, hd⟩
  have bel : Below W.heap.size W W' := hd
  exact ⟨_, rfl, _, _, _, [], _, [], hW', trodAll_mk1 (shut_bool Tryd.underlying4 _), (trodAll_cons_mk (Below.trod laidOut (by kernel_rfl) (of_decide_eq_true (by kernel_rfl)) k0 bel lt0) trodAll_mk0), rfl, bel.frame _, fun h => by cases h⟩
theorem over : Rows.fnExactMotionTextRow.holds Tryd.pinned (OpenSpec.ofChange Rows.fnExactMotionTextSpec) :=
  OpenClaim.holds_of_wide 5 Tryd.f5 rfl rfl rfl rfl rfl rfl rfl ⟨rfl, rfl, rfl, rfl, rfl⟩ rfl rfl rfl rfl rfl (by kernel_rfl) Tryd.func5 (by kernel_rfl)
    (of_decide_eq_true (by kernel_rfl)) (by unfold Func.isWrapper; first | (rw [if_pos (by decide +kernel)]; kernel_rfl) | (rw [if_neg (by decide +kernel)]; exact ⟨rfl, rfl⟩))
    (fun os started H enc _ => lifted os started H enc)
theorem proved : Rows.FnExactMotionTextSaid := over
end Go.Proofs.YtdgillfbdlmloaaDoor.fnExactMotionText
namespace Go.Proofs.YtdgillfbdlmloaaDoor
open Go
/-- The tied card: the row, its listed tables tied to the program's text. -/
theorem fnExactMotionText_holds : Rows.FnExactMotionTextCardSaid :=
  Claim7.holds_tied_plain_at .later [] [.data, .data, .data] true (true, "0b4922077aff8dab679928eaa2e88f2b75fe0523b4d93beaa9f977a5bc71b7e1") true
    fnExactMotionText.proved (fun _ h => by cases h) (by kernel_rfl) (fun _ h => by cases h) fnExactMotionText_row_tie rfl ⟨rfl, rfl⟩ (by kernel_rfl) rfl
    (fun f fn hf hfn => by
      obtain rfl : f = 5 := Option.some.inj ((show Tryd.prog.funcNamed "loop.example/g01278/laws.FnExactMotionText" = some 5 by kernel_rfl).symm.trans hf) |>.symm
      obtain rfl : fn = Tryd.f5 := (Option.some.inj (Tryd.func5.symm.trans hfn)).symm
      exact ⟨by kernel_rfl, fun j t ht => by
        rw [Tryd.params5] at ht
        have hm : t ∈ [38] := by simpa using Array.mem_of_getElem? ht
        have hall : ([38].all fun u => !Tryd.prog.wantsStandIn u) = true := by kernel_rfl
        exact (show Tryd.prog.wantsStandIn t = false by simpa using List.all_eq_true.1 hall t hm)⟩)
    (by kernel_rfl)
#print axioms fnExactMotionText_holds
end Go.Proofs.YtdgillfbdlmloaaDoor
