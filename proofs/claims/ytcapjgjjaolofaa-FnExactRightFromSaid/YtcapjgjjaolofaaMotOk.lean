/- A motion is right: both texts ask the same. -/
import Derived.Test.YtcapjgjjaolofaaMotCore
import Derived.Test.YtcapjgjjaolofaaMotA
import Derived.Test.YtcapjgjjaolofaaMotC
import Derived.Test.YtcapjgjjaolofaaPx19
namespace Go.Proofs.Ytcapjgjjaolofaa.Core
open Go.RowKit Go.Proofs.Ytcapjgjjaolofaa.P Go.Proofs.YtcapjgjjaolofaaW.PrintWords Go.Proofs.YtcapjgjjaolofaaW.PrintMore
theorem wf8i {n : Int} (h : (Lit.int .i8 n).wf = true) : -128 ≤ n ∧ n ≤ 127 := by
  simp [Lit.wf, IntKind.min, IntKind.max, IntKind.signed, IntKind.bits] at h
  omega
theorem wf16i {n : Int} (h : (Lit.int .i16 n).wf = true) : -32768 ≤ n ∧ n ≤ 32767 := by
  simp [Lit.wf, IntKind.min, IntKind.max, IntKind.signed, IntKind.bits] at h
  omega
theorem okJ_okS {a b : Int} (ha : -128 ≤ a ∧ a ≤ 127) (hb : -32768 ≤ b ∧ b ≤ 32767) : okS a b = okJ a b := by
  unfold okS okJ
  rw [wr (n := a) (by omega), wr (n := b) (by omega), Bool.eq_iff_iff]
  by_cases h0 : a = 0
  · subst h0
    simp
    omega
  · by_cases h1 : a = 1
    · subst h1
      simp
      omega
    · rw [if_neg h0, if_neg h1]
      simp
      omega
theorem cvJ_all (js : List S109) (h : ∀ x ∈ js, (Lit.int .i8 x.f0).wf = true ∧ (Lit.int .i16 x.f1).wf = true) : (cvJ js).all (fun j => okS j.f0 j.f1) = !((cvJ js).any (fun j => !okJ j.f0 j.f1)) := by
  induction js with
  | nil => rfl
  | cons j js ih =>
    have hj := h j (by simp)
    have e := okJ_okS (wf8i hj.1) (wf16i hj.2)
    have ih := ih fun x hx => h x (by simp [hx])
    simp only [cvJ, List.map_cons, List.all_cons, List.any_cons, Bool.not_or, Bool.not_not] at ih ⊢
    rw [ih, e]
theorem okM_impl (l : List Int) (js : List S109) (h : ∀ x ∈ js, (Lit.int .i8 x.f0).wf = true ∧ (Lit.int .i16 x.f1).wf = true) : impl_ValidMotion.f l (cvJ js) = some (okM (validB l) l (cvJ js)) := by
  unfold impl_ValidMotion.f impl_ValidStack.f okM
  simp only [Option.bind_some]
  by_cases h1 : validB l = true
  · by_cases h2 : ((cvJ js).length : Int) = wrap64 ((l.length : Int) - 1)
    · rw [if_pos h1, if_pos h2, h1, decide_eq_true h2, cvJ_all js h]
      rfl
    · rw [if_pos h1, if_neg h2, h1, decide_eq_false h2]
      rfl
  · rw [if_neg h1, Bool.eq_false_iff.mpr h1]
    rfl
theorem valid_specM (k : Nat) (l : List Int) (hl : l.length ≤ 1048576) (hk : 2 * l.length + 1 < k) : spec_ValidStack.f k l = some (validB l) := by
  unfold spec_ValidStack.f
  rw [ok_spec k l hl hk]
  rfl
theorem sizeOf_specM (k : Nat) (l : List Int) (hl : l.length ≤ 1048576) (hk : 2 * l.length + 1 < k) (hv : validB l = true) : spec_SizeOf.f k l = some (sizeZ l, 0) := by
  unfold spec_SizeOf.f
  rw [ok_spec k l hl hk, size_spec k l hl (by omega)]
  simp only [Option.bind_some, if_pos hv]
theorem okM_valid {l : List Int} {js : List S88} (h : okM (validB l) l js = true) : validB l = true := by
  unfold okM at h
  simp only [Bool.and_eq_true] at h
  exact h.1
end Go.Proofs.Ytcapjgjjaolofaa.Core
