/- A motion is right: both texts ask the same; the text of a motion: both make the same. -/
import Derived.Test.YtdgillfbdlmloaaDoorMotCore6
import Derived.Test.YtdgillfbdlmloaaDoorMotA6
import Derived.Test.YtdgillfbdlmloaaDoorMotU
import Derived.Test.YtdgillfbdlmloaaDoorMotT
import Derived.Test.YtdgillfbdlmloaaDoorTextCore
import Derived.Test.YtdgillfbdlmloaaDoorPx10
namespace Go.Proofs.YtdgillfbdlmloaaDoor.Core
open Go.RowKit Go.Proofs.YtdgillfbdlmloaaDoor.P Go.Proofs.YtdgillfbdlmloaaDoorW.PrintWords Go.Proofs.YtdgillfbdlmloaaDoorW.PrintMore
theorem wf8i {n : Int} (h : (Lit.int .i8 n).wf = true) : -128 ≤ n ∧ n ≤ 127 := by
  simp [Lit.wf, IntKind.min, IntKind.max, IntKind.signed, IntKind.bits] at h
  omega
theorem wf16i {n : Int} (h : (Lit.int .i16 n).wf = true) : -32768 ≤ n ∧ n ≤ 32767 := by
  simp [Lit.wf, IntKind.min, IntKind.max, IntKind.signed, IntKind.bits] at h
  omega
theorem okJ_okS {a b : Int} (ha : -128 ≤ a ∧ a ≤ 127) (hb : -32768 ≤ b ∧ b ≤ 32767) : okS a b = okJ a b := by
  unfold okS okJ
  rw [wr (n := a) (by omega), wr (n := b) (by omega), Bool.eq_iff_iff]
  by_cases h0 : a = 0
  · subst h0
    simp
    omega
  · by_cases h1 : a = 1
    · subst h1
      simp
      omega
    · rw [if_neg h0, if_neg h1]
      simp
      omega
theorem cvJ_all (js : List S114) (h : ∀ x ∈ js, (Lit.int .i8 x.f0).wf = true ∧ (Lit.int .i16 x.f1).wf = true) : (cvJ js).all (fun j => okS j.f0 j.f1) = !((cvJ js).any (fun j => !okJ j.f0 j.f1)) := by
  induction js with
  | nil => rfl
  | cons j js ih =>
    have hj := h j (by simp)
    have e := okJ_okS (wf8i hj.1) (wf16i hj.2)
    have ih := ih fun x hx => h x (by simp [hx])
    simp only [cvJ, List.map_cons, List.all_cons, List.any_cons, Bool.not_or, Bool.not_not] at ih ⊢
    rw [ih, e]
theorem okM_impl (l : List Int) (js : List S114) (h : ∀ x ∈ js, (Lit.int .i8 x.f0).wf = true ∧ (Lit.int .i16 x.f1).wf = true) : impl_ValidMotion.f l (cvJ js) = some (okM (validB l) l (cvJ js)) := by
  unfold impl_ValidMotion.f impl_ValidStack.f okM
  simp only [Option.bind_some]
  by_cases h1 : validB l = true
  · by_cases h2 : ((cvJ js).length : Int) = wrap64 ((l.length : Int) - 1)
    · rw [if_pos h1, if_pos h2, h1, decide_eq_true h2, cvJ_all js h]
      rfl
    · rw [if_pos h1, if_neg h2, h1, decide_eq_false h2]
      rfl
  · rw [if_neg h1, Bool.eq_false_iff.mpr h1]
    rfl
theorem valid_specM (k : Nat) (l : List Int) (hl : l.length ≤ 1048576) (hk : 2 * l.length + 1 < k) : spec_ValidStack.f k l = some (validB l) := by
  unfold spec_ValidStack.f
  rw [ok_spec k l hl hk]
  rfl
theorem okM_valid {l : List Int} {js : List S77} (h : okM (validB l) l js = true) : validB l = true := by
  unfold okM at h
  simp only [Bool.and_eq_true] at h
  exact h.1
theorem stackT_small {l : List Int} {r : ByteArray} (h : impl_StackText.f l = some r) : r.size ≤ 140737488355328 := by
  unfold impl_StackText.f at h
  replace h := Option.bind_eq_some_iff.mp h
  obtain ⟨v, hv, h⟩ := h
  by_cases c : v = true
  · rw [if_pos c] at h
    by_cases c1 : 1 ≤ l.length
    · rw [if_pos c1] at h
      by_cases c2 : l.length ≤ 8
      · rw [if_pos c2] at h
        obtain rfl := Option.some.inj h
        have := preS_le l l.length (by omega)
        rw [ba_size]
        exact this
      · rw [if_neg c2] at h
        cases h
    · rw [if_neg c1] at h
      cases h
  · rw [if_neg c] at h
    obtain rfl := Option.some.inj h
    exact Nat.zero_le _
theorem mot_both (k : Nat) (hk : 1000 < k) (js : List S77) : ∀ o : ByteArray, (∀ j ∈ js, okS j.f0 j.f1 = true ∧ -32768 ≤ j.f1 ∧ j.f1 ≤ 32767) → o.size + 30 * js.length ≤ 9223372036854775807 → ∃ r, motD k js o = some r ∧ motI js o = some r := by
  induction js with
  | nil => exact fun o _ _ => ⟨o, rfl, rfl⟩
  | cons j js ih =>
    intro o h hs
    rw [List.length_cons] at hs
    have hj := h j (by simp)
    unfold motD motI
    by_cases c : j.f0 = 0
    · obtain ⟨r, h1, h2⟩ := ih (o ++ ⟨#[32, 101, 118, 101, 110]⟩) (fun x hx => h x (by simp [hx])) (by
        rw [ByteArray.size_append]
        show o.size + 5 + _ ≤ _
        omega)
      rw [if_pos c, if_pos c, if_pos (by omega), if_pos (by omega)]
      exact ⟨r, h1, h2⟩
    · have hw : wrap64 j.f1 = j.f1 := wr (by omega)
      have hk2 := hj.1
      unfold okS at hk2
      simp only [Bool.and_eq_true, decide_eq_true_eq] at hk2
      have hd := dec_spec 1000 k (wrap64 j.f1) (by omega) (by omega) (by omega) (by omega)
      have hsz := decS_size (wrap64 j.f1) (w64_in _).1 (w64_in _).2
      obtain ⟨r, h1, h2⟩ := ih (o ++ (⟨#[32, 108, 97, 116, 101]⟩ ++ decS (wrap64 j.f1))) (fun x hx => h x (by simp [hx])) (by
        rw [ByteArray.size_append, ByteArray.size_append]
        show o.size + (5 + (decS (wrap64 j.f1)).size) + _ ≤ _
        omega)
      rw [if_neg c, if_neg c, hd]
      simp only [Option.bind_some]
      rw [if_pos (by omega), if_pos (by omega), if_pos (by omega), if_pos (by omega)]
      exact ⟨r, h1, h2⟩
theorem motionText_both (k : Nat) (l : List Int) (js : List S114) (hl : l.length ≤ 1048576) (hk : 2 * l.length + 1000 < k) (hw : ∀ x ∈ js, (Lit.int .i8 x.f0).wf = true ∧ (Lit.int .i16 x.f1).wf = true) : ∃ r, spec_MotionText.f k l (cvJ js) = some r ∧ impl_MotionText.f l (cvJ js) = some r := by
  unfold spec_MotionText.f impl_MotionText.f
  rw [valid_specM k l hl (by omega), okM_impl l js hw]
  simp only [Option.bind_some]
  by_cases h : okM (validB l) l (cvJ js) = true
  · rw [if_pos h, if_pos h]
    obtain ⟨s, e1, e2⟩ := stackText_both k l hl hk
    rw [e1, e2]
    simp only [Option.bind_some]
    have h8 := validB_len (okM_valid h)
    unfold okM at h
    simp only [Bool.and_eq_true, decide_eq_true_eq, List.all_eq_true] at h
    have hn : ((cvJ js).length : Int) = (l.length : Int) - 1 := by rw [h.2.1, wr (by omega)]
    have hss := stackT_small e2
    refine mot_both k (by omega) (cvJ js) s (fun j hj => ⟨h.2.2 j hj, ?_⟩) (by omega)
    unfold cvJ at hj
    obtain ⟨x, hx, rfl⟩ := List.mem_map.1 hj
    exact wf16i (hw x hx).2
  · rw [if_neg h, if_neg h]
    exact ⟨_, rfl, rfl⟩
end Go.Proofs.YtdgillfbdlmloaaDoor.Core
