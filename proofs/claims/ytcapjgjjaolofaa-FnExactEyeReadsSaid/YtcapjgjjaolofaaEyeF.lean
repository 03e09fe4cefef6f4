/- The contracts of EyeReads in the printed form. -/
import Derived.Test.YtcapjgjjaolofaaEyeN
import Derived.Test.YtcapjgjjaolofaaEyeM
namespace Go.Proofs.Ytcapjgjjaolofaa.P
open Go.RowKit Go.Proofs.YtcapjgjjaolofaaW.PrintWords Go.Proofs.YtcapjgjjaolofaaW.PrintLast Go.Proofs.YtcapjgjjaolofaaW.PrintMore
set_option linter.unusedVariables false
set_option linter.unusedSimpArgs false
/-- Digits and a code, one by one. -/
def digsT (d : List Int) (c : Int) : Int × Int × Int × Int × Int × Int × Int × Int × Int := (d.getD 0 0, d.getD 1 0, d.getD 2 0, d.getD 3 0, d.getD 4 0, d.getD 5 0, d.getD 6 0, d.getD 7 0, c)
theorem digsT_val (d : List Int) (c : Int) (hd : d.length = 8) {r1 r2 r3 r4 r5 r6 r7 r8 r9 : Int} (h : digsT d c = (r1, r2, r3, r4, r5, r6, r7, r8, r9)) : (Value.tuple #[.agg (u8s d), .int .i64 c]) = .tuple #[.agg #[.int .u8 r1, .int .u8 r2, .int .u8 r3, .int .u8 r4, .int .u8 r5, .int .u8 r6, .int .u8 r7, .int .u8 r8], .int .i64 r9] := by
  obtain ⟨c0, c1, c2, c3, c4, c5, c6, c7, rfl⟩ := list8 hd
  simp only [digsT, Prod.mk.injEq] at h
  obtain ⟨rfl, rfl, rfl, rfl, rfl, rfl, rfl, rfl, rfl⟩ := h
  rfl
def spec_EyeReads.f (k : Nat) (l0_0 : List Int) (l0_1 : List S88) (a1_0 : Int) (a1_1 : Int) (a1_2 : Int) (a1_3 : Int) (a1_4 : Int) (a1_5 : Int) (a1_6 : Int) (a1_7 : Int) (a2 : Int) : Option (Int × Int × Int × Int × Int × Int × Int × Int × Int) := (spec_ValidStack.f k l0_0).bind fun v => if okM v l0_0 l0_1 = true then (if givB zeroS l0_0 [a1_0, a1_1, a1_2, a1_3, a1_4, a1_5, a1_6, a1_7] = true then ((spec_l02Eye.f a2).bind fun e => if e = true then (if l0_0.length ≤ 8 ∧ ∀ b ∈ l0_0, 2 ≤ b ∧ b ≤ 100 then some (digsT (readL (rdS a2) l0_0 [a1_0, a1_1, a1_2, a1_3, a1_4, a1_5, a1_6, a1_7]) 0) else none) else some (digsT [0, 0, 0, 0, 0, 0, 0, 0] 2)) else some (digsT [0, 0, 0, 0, 0, 0, 0, 0] 1)) else some (digsT [0, 0, 0, 0, 0, 0, 0, 0] 1)
theorem spec_EyeReads.mono : ∀ a b a1_0 a1_1 a1_2 a1_3 a1_4 a1_5 a1_6 a1_7 c k, LeO (spec_EyeReads.f k a b a1_0 a1_1 a1_2 a1_3 a1_4 a1_5 a1_6 a1_7 c) (spec_EyeReads.f (k + 1) a b a1_0 a1_1 a1_2 a1_3 a1_4 a1_5 a1_6 a1_7 c) := by
  intro a b a1_0 a1_1 a1_2 a1_3 a1_4 a1_5 a1_6 a1_7 c k
  unfold spec_EyeReads.f
  repeat' first
      | (with_reducible exact spec_ValidStack.mono _ _)
      | (with_reducible exact LeO.refl _)
      | (with_reducible refine LeO.bind ?_ (fun _ => ?_))
theorem spec_EyeReads.calls (k : Nat) (A0_0 : Option Addr) (c0_0 : Nat) (l0_0 : List Int) (A0_1 : Option Addr) (c0_1 : Nat) (l0_1 : List S88) (a1_0 : Int) (a1_1 : Int) (a1_2 : Int) (a1_3 : Int) (a1_4 : Int) (a1_5 : Int) (a1_6 : Int) (a1_7 : Int) (a2 : Int) (r1 : Int) (r2 : Int) (r3 : Int) (r4 : Int) (r5 : Int) (r6 : Int) (r7 : Int) (r8 : Int) (r9 : Int) (w : World) (hr0_0 : Kd.C (Kd.int .u8) w A0_0 l0_0.length l0_0) (hc0_0 : l0_0.length ≤ c0_0) (hr0_1 : Kd.C k88 w A0_1 l0_1.length l0_1) (hc0_1 : l0_1.length ≤ c0_1) (h : spec_EyeReads.f k l0_0 l0_1 a1_0 a1_1 a1_2 a1_3 a1_4 a1_5 a1_6 a1_7 a2 = some (r1, r2, r3, r4, r5, r6, r7, r8, r9)) :
    Calls Try.prog 37 #[.agg #[.slice A0_0 l0_0.length c0_0, .slice A0_1 l0_1.length c0_1], .agg #[.int .i64 a1_0, .int .i64 a1_1, .int .i64 a1_2, .int .i64 a1_3, .int .i64 a1_4, .int .i64 a1_5, .int .i64 a1_6, .int .i64 a1_7], .int .i64 a2] w fun e w' => e = .returned (.tuple #[.agg #[.int .u8 r1, .int .u8 r2, .int .u8 r3, .int .u8 r4, .int .u8 r5, .int .u8 r6, .int .u8 r7, .int .u8 r8], .int .i64 r9]) ∧ Below w.heap.size w w' := by
  unfold spec_EyeReads.f at h
  replace h := Option.bind_eq_some_iff.mp h
  obtain ⟨v, hv, h⟩ := h
  by_cases hm : okM v l0_0 l0_1 = true
  · rw [if_pos hm] at h
    by_cases hg : givB zeroS l0_0 [a1_0, a1_1, a1_2, a1_3, a1_4, a1_5, a1_6, a1_7] = true
    · rw [if_pos hg] at h
      replace h := Option.bind_eq_some_iff.mp h
      obtain ⟨e, he, h⟩ := h
      cases e with
      | true =>
        rw [if_pos rfl] at h
        by_cases h8 : l0_0.length ≤ 8 ∧ ∀ b ∈ l0_0, 2 ≤ b ∧ b ≤ 100
        · rw [if_pos h8] at h
          have := eyeS_d k A0_0 c0_0 l0_0 A0_1 c0_1 l0_1 [a1_0, a1_1, a1_2, a1_3, a1_4, a1_5, a1_6, a1_7] rfl a2 v hv hm hg he h8.1 h8.2 w hr0_0 hc0_0 hr0_1
          rw [digsT_val _ _ (by rw [readL_len]; rfl) (Option.some.inj h)] at this
          exact this
        · rw [if_neg h8] at h
          cases h
      | false =>
        rw [if_neg (by decide)] at h
        have := eyeS_c k A0_0 c0_0 l0_0 A0_1 c0_1 l0_1 [a1_0, a1_1, a1_2, a1_3, a1_4, a1_5, a1_6, a1_7] rfl a2 v hv hm hg he w hr0_0 hc0_0 hr0_1
        rw [digsT_val _ _ rfl (Option.some.inj h)] at this
        exact this
    · rw [if_neg hg] at h
      have := eyeS_b k A0_0 c0_0 l0_0 A0_1 c0_1 l0_1 [a1_0, a1_1, a1_2, a1_3, a1_4, a1_5, a1_6, a1_7] rfl a2 v hv hm (by simpa using hg) w hr0_0 hc0_0 hr0_1
      rw [digsT_val _ _ rfl (Option.some.inj h)] at this
      exact this
  · rw [if_neg hm] at h
    have := eyeS_a k A0_0 c0_0 l0_0 A0_1 c0_1 l0_1 [a1_0, a1_1, a1_2, a1_3, a1_4, a1_5, a1_6, a1_7] rfl a2 v hv (by simpa using hm) w hr0_0 hc0_0 hr0_1
    rw [digsT_val _ _ rfl (Option.some.inj h)] at this
    exact this
def impl_EyeReads.f (l0_0 : List Int) (l0_1 : List S88) (a1_0 : Int) (a1_1 : Int) (a1_2 : Int) (a1_3 : Int) (a1_4 : Int) (a1_5 : Int) (a1_6 : Int) (a1_7 : Int) (a2 : Int) : Option (Int × Int × Int × Int × Int × Int × Int × Int × Int) := (impl_ValidMotion.f l0_0 l0_1).bind fun v => if v = true then (if givB zeroI l0_0 [a1_0, a1_1, a1_2, a1_3, a1_4, a1_5, a1_6, a1_7] = true then ((impl_isEye.f a2).bind fun e => if e = true then (if l0_0.length ≤ 8 ∧ ∀ b ∈ l0_0, 2 ≤ b ∧ b ≤ 100 then some (digsT (readL (rdI a2) l0_0 [a1_0, a1_1, a1_2, a1_3, a1_4, a1_5, a1_6, a1_7]) 0) else none) else some (digsT [0, 0, 0, 0, 0, 0, 0, 0] 2)) else some (digsT [0, 0, 0, 0, 0, 0, 0, 0] 1)) else some (digsT [0, 0, 0, 0, 0, 0, 0, 0] 1)
theorem impl_EyeReads.calls (A0_0 : Option Addr) (c0_0 : Nat) (l0_0 : List Int) (A0_1 : Option Addr) (c0_1 : Nat) (l0_1 : List S88) (a1_0 : Int) (a1_1 : Int) (a1_2 : Int) (a1_3 : Int) (a1_4 : Int) (a1_5 : Int) (a1_6 : Int) (a1_7 : Int) (a2 : Int) (r1 : Int) (r2 : Int) (r3 : Int) (r4 : Int) (r5 : Int) (r6 : Int) (r7 : Int) (r8 : Int) (r9 : Int) (w : World) (hr0_0 : Kd.C (Kd.int .u8) w A0_0 l0_0.length l0_0) (hc0_0 : l0_0.length ≤ c0_0) (hr0_1 : Kd.C k88 w A0_1 l0_1.length l0_1) (hc0_1 : l0_1.length ≤ c0_1) (h : impl_EyeReads.f l0_0 l0_1 a1_0 a1_1 a1_2 a1_3 a1_4 a1_5 a1_6 a1_7 a2 = some (r1, r2, r3, r4, r5, r6, r7, r8, r9)) :
    Calls Try.prog 38 #[.agg #[.slice A0_0 l0_0.length c0_0, .slice A0_1 l0_1.length c0_1], .agg #[.int .i64 a1_0, .int .i64 a1_1, .int .i64 a1_2, .int .i64 a1_3, .int .i64 a1_4, .int .i64 a1_5, .int .i64 a1_6, .int .i64 a1_7], .int .i64 a2] w fun e w' => e = .returned (.tuple #[.agg #[.int .u8 r1, .int .u8 r2, .int .u8 r3, .int .u8 r4, .int .u8 r5, .int .u8 r6, .int .u8 r7, .int .u8 r8], .int .i64 r9]) ∧ Below w.heap.size w w' := by
  unfold impl_EyeReads.f at h
  replace h := Option.bind_eq_some_iff.mp h
  obtain ⟨v, hv, h⟩ := h
  cases v with
  | true =>
    rw [if_pos rfl] at h
    by_cases hg : givB zeroI l0_0 [a1_0, a1_1, a1_2, a1_3, a1_4, a1_5, a1_6, a1_7] = true
    · rw [if_pos hg] at h
      replace h := Option.bind_eq_some_iff.mp h
      obtain ⟨e, he, h⟩ := h
      cases e with
      | true =>
        rw [if_pos rfl] at h
        by_cases h8 : l0_0.length ≤ 8 ∧ ∀ b ∈ l0_0, 2 ≤ b ∧ b ≤ 100
        · rw [if_pos h8] at h
          have := eyeI_d A0_0 c0_0 l0_0 A0_1 c0_1 l0_1 [a1_0, a1_1, a1_2, a1_3, a1_4, a1_5, a1_6, a1_7] rfl a2 hv hg he h8.1 h8.2 w hr0_0 hc0_0 hr0_1 hc0_1
          rw [digsT_val _ _ (by rw [readL_len]; rfl) (Option.some.inj h)] at this
          exact this
        · rw [if_neg h8] at h
          cases h
      | false =>
        rw [if_neg (by decide)] at h
        have := eyeI_c A0_0 c0_0 l0_0 A0_1 c0_1 l0_1 [a1_0, a1_1, a1_2, a1_3, a1_4, a1_5, a1_6, a1_7] rfl a2 hv hg he w hr0_0 hc0_0 hr0_1 hc0_1
        rw [digsT_val _ _ rfl (Option.some.inj h)] at this
        exact this
    · rw [if_neg hg] at h
      have := eyeI_b A0_0 c0_0 l0_0 A0_1 c0_1 l0_1 [a1_0, a1_1, a1_2, a1_3, a1_4, a1_5, a1_6, a1_7] rfl a2 hv (by simpa using hg) w hr0_0 hc0_0 hr0_1 hc0_1
      rw [digsT_val _ _ rfl (Option.some.inj h)] at this
      exact this
  | false =>
    rw [if_neg (by decide)] at h
    have := eyeI_a A0_0 c0_0 l0_0 A0_1 c0_1 l0_1 [a1_0, a1_1, a1_2, a1_3, a1_4, a1_5, a1_6, a1_7] rfl a2 hv w hr0_0 hc0_0 hr0_1 hc0_1
    rw [digsT_val _ _ rfl (Option.some.inj h)] at this
    exact this
end Go.Proofs.Ytcapjgjjaolofaa.P
