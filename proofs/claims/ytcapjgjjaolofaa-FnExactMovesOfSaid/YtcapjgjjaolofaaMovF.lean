/- The contracts of MovesOf in the printed form. -/
import Derived.Test.YtcapjgjjaolofaaMovI
import Derived.Test.YtcapjgjjaolofaaGivF5
import Derived.Test.YtcapjgjjaolofaaGivG
import Derived.Test.YtcapjgjjaolofaaPx22
namespace Go.Proofs.Ytcapjgjjaolofaa.P
open Go.RowKit Go.Proofs.YtcapjgjjaolofaaW.PrintWords Go.Proofs.YtcapjgjjaolofaaW.PrintLast Go.Proofs.YtcapjgjjaolofaaW.PrintMore
set_option linter.unusedVariables false
/-- Numbers and a code, one by one. -/
def movT (d : List Int) (c : Int) : Int × Int × Int × Int × Int × Int × Int × Int × Int := (d.getD 0 0, d.getD 1 0, d.getD 2 0, d.getD 3 0, d.getD 4 0, d.getD 5 0, d.getD 6 0, d.getD 7 0, c)
theorem movT_val (d : List Int) (c : Int) (hd : d.length = 8) {r1 r2 r3 r4 r5 r6 r7 r8 r9 : Int} (h : movT d c = (r1, r2, r3, r4, r5, r6, r7, r8, r9)) : (Value.tuple #[.agg (i64s d), .int .i64 c]) = .tuple #[.agg #[.int .i64 r1, .int .i64 r2, .int .i64 r3, .int .i64 r4, .int .i64 r5, .int .i64 r6, .int .i64 r7, .int .i64 r8], .int .i64 r9] := by
  obtain ⟨c0, c1, c2, c3, c4, c5, c6, c7, rfl⟩ := list8 hd
  simp only [movT, Prod.mk.injEq] at h
  obtain ⟨rfl, rfl, rfl, rfl, rfl, rfl, rfl, rfl, rfl⟩ := h
  rfl
theorem mvS_mono (l : List Int) (V n : Int) (i k : Nat) : LeO (mvS k l V n i) (mvS (k + 1) l V n i) := by
  induction i with
  | zero => exact LeO.refl _
  | succ i ih =>
    unfold mvS
    repeat' first
      | (with_reducible exact ih)
      | (with_reducible exact spec_l01Place.mono _ _ _)
      | (with_reducible exact LeO.refl _)
      | (with_reducible exact LeO.none _)
      | (with_reducible refine LeO.ite ?_ ?_)
      | (with_reducible refine LeO.bind ?_ (fun _ => ?_))
def spec_MovesOf.f (k : Nat) (l0 : List Int) (a1_0 : Int) (a1_1 : Int) (a1_2 : Int) (a1_3 : Int) (a1_4 : Int) (a1_5 : Int) (a1_6 : Int) (a1_7 : Int) (a2 : Int) : Option (Int × Int × Int × Int × Int × Int × Int × Int × Int) := (spec_ValidDigits.f k l0 a1_0 a1_1 a1_2 a1_3 a1_4 a1_5 a1_6 a1_7).bind fun v => if v = true then ((spec_l01Count.f a2).bind fun c => if c = true then (if l0.length ≤ 8 then ((mvS k l0 (valZ l0 [a1_0, a1_1, a1_2, a1_3, a1_4, a1_5, a1_6, a1_7]) a2 l0.length).bind fun o => some (movT o 0)) else none) else some (movT [0, 0, 0, 0, 0, 0, 0, 0] 2)) else some (movT [0, 0, 0, 0, 0, 0, 0, 0] 1)
theorem spec_MovesOf.mono : ∀ l0 a1_0 a1_1 a1_2 a1_3 a1_4 a1_5 a1_6 a1_7 a2 k, LeO (spec_MovesOf.f k l0 a1_0 a1_1 a1_2 a1_3 a1_4 a1_5 a1_6 a1_7 a2) (spec_MovesOf.f (k + 1) l0 a1_0 a1_1 a1_2 a1_3 a1_4 a1_5 a1_6 a1_7 a2) := by
  intro l0 a1_0 a1_1 a1_2 a1_3 a1_4 a1_5 a1_6 a1_7 a2 k
  unfold spec_MovesOf.f
  repeat' first
      | (with_reducible exact mvS_mono _ _ _ _ _)
      | (with_reducible exact spec_ValidDigits.mono _ _ _ _ _ _ _ _ _ _)
      | (with_reducible exact LeO.refl _)
      | (with_reducible exact LeO.none _)
      | (with_reducible refine LeO.ite ?_ ?_)
      | (with_reducible refine LeO.bind ?_ (fun _ => ?_))
theorem spec_MovesOf.calls (k : Nat) (A0 : Option Addr) (c0 : Nat) (l0 : List Int) (a1_0 : Int) (a1_1 : Int) (a1_2 : Int) (a1_3 : Int) (a1_4 : Int) (a1_5 : Int) (a1_6 : Int) (a1_7 : Int) (a2 : Int) (r1 : Int) (r2 : Int) (r3 : Int) (r4 : Int) (r5 : Int) (r6 : Int) (r7 : Int) (r8 : Int) (r9 : Int) (w : World) (hr0 : Kd.C (Kd.int .u8) w A0 l0.length l0) (hc0 : l0.length ≤ c0) (h : spec_MovesOf.f k l0 a1_0 a1_1 a1_2 a1_3 a1_4 a1_5 a1_6 a1_7 a2 = some (r1, r2, r3, r4, r5, r6, r7, r8, r9)) :
    Calls Try.prog 12 #[.slice A0 l0.length c0, .agg #[.int .u8 a1_0, .int .u8 a1_1, .int .u8 a1_2, .int .u8 a1_3, .int .u8 a1_4, .int .u8 a1_5, .int .u8 a1_6, .int .u8 a1_7], .int .i64 a2] w fun e w' => e = .returned (.tuple #[.agg #[.int .i64 r1, .int .i64 r2, .int .i64 r3, .int .i64 r4, .int .i64 r5, .int .i64 r6, .int .i64 r7, .int .i64 r8], .int .i64 r9]) ∧ Below w.heap.size w w' := by
  unfold spec_MovesOf.f at h
  replace h := Option.bind_eq_some_iff.mp h
  obtain ⟨v, hv, h⟩ := h
  have hv' := fun w1 hr1 => spec_ValidDigits.calls k A0 c0 l0 a1_0 a1_1 a1_2 a1_3 a1_4 a1_5 a1_6 a1_7 v w1 hr1 hc0 hv
  cases v with
  | true =>
    rw [if_pos rfl] at h
    replace h := Option.bind_eq_some_iff.mp h
    obtain ⟨c, hc, h⟩ := h
    cases c with
    | true =>
      rw [if_pos rfl] at h
      by_cases h8 : l0.length ≤ 8
      · rw [if_pos h8] at h
        replace h := Option.bind_eq_some_iff.mp h
        obtain ⟨o, ho, h⟩ := h
        have hval' := fun w1 hr1 => spec_l01Value.calls A0 c0 l0 a1_0 a1_1 a1_2 a1_3 a1_4 a1_5 a1_6 a1_7 (valZ l0 [a1_0, a1_1, a1_2, a1_3, a1_4, a1_5, a1_6, a1_7]) w1 hr1 hc0 (by unfold spec_l01Value.f; rw [if_pos h8])
        have := movS_yes k A0 c0 l0 [a1_0, a1_1, a1_2, a1_3, a1_4, a1_5, a1_6, a1_7] rfl a2 (valZ l0 [a1_0, a1_1, a1_2, a1_3, a1_4, a1_5, a1_6, a1_7]) o hv' hval' hc h8 ho w hr0 hc0
        rw [movT_val _ _ (mvS_len _ _ _ _ _ _ ho) (Option.some.inj h)] at this
        exact this
      · rw [if_neg h8] at h
        cases h
    | false =>
      rw [if_neg (by decide)] at h
      have := movS_range k A0 c0 l0 [a1_0, a1_1, a1_2, a1_3, a1_4, a1_5, a1_6, a1_7] rfl a2 hv' hc w hr0 hc0
      rw [movT_val _ _ rfl (Option.some.inj h)] at this
      exact this
  | false =>
    rw [if_neg (by decide)] at h
    have := movS_no k A0 c0 l0 [a1_0, a1_1, a1_2, a1_3, a1_4, a1_5, a1_6, a1_7] rfl a2 hv' w hr0 hc0
    rw [movT_val _ _ rfl (Option.some.inj h)] at this
    exact this
theorem mvI_mono (l : List Int) (V n : Int) (i k : Nat) : LeO (mvI k l V n i) (mvI (k + 1) l V n i) := by
  induction i with
  | zero => exact LeO.refl _
  | succ i ih =>
    unfold mvI
    repeat' first
      | (with_reducible exact ih)
      | (with_reducible exact impl_Stack_place.mono _ _ _)
      | (with_reducible exact LeO.refl _)
      | (with_reducible exact LeO.none _)
      | (with_reducible refine LeO.ite ?_ ?_)
      | (with_reducible refine LeO.bind ?_ (fun _ => ?_))
def impl_MovesOf.f (k : Nat) (l0 : List Int) (a1_0 : Int) (a1_1 : Int) (a1_2 : Int) (a1_3 : Int) (a1_4 : Int) (a1_5 : Int) (a1_6 : Int) (a1_7 : Int) (a2 : Int) : Option (Int × Int × Int × Int × Int × Int × Int × Int × Int) := (impl_ValidDigits.f l0 a1_0 a1_1 a1_2 a1_3 a1_4 a1_5 a1_6 a1_7).bind fun v => if v = true then ((impl_within.f a2 (-1000000000000) 1000000000000).bind fun c => if c = true then (if l0.length ≤ 8 then ((mvI k l0 (valZ l0 [a1_0, a1_1, a1_2, a1_3, a1_4, a1_5, a1_6, a1_7]) a2 l0.length).bind fun o => some (movT o 0)) else none) else some (movT [0, 0, 0, 0, 0, 0, 0, 0] 2)) else some (movT [0, 0, 0, 0, 0, 0, 0, 0] 1)
theorem impl_MovesOf.mono : ∀ l0 a1_0 a1_1 a1_2 a1_3 a1_4 a1_5 a1_6 a1_7 a2 k, LeO (impl_MovesOf.f k l0 a1_0 a1_1 a1_2 a1_3 a1_4 a1_5 a1_6 a1_7 a2) (impl_MovesOf.f (k + 1) l0 a1_0 a1_1 a1_2 a1_3 a1_4 a1_5 a1_6 a1_7 a2) := by
  intro l0 a1_0 a1_1 a1_2 a1_3 a1_4 a1_5 a1_6 a1_7 a2 k
  unfold impl_MovesOf.f
  repeat' first
      | (with_reducible exact mvI_mono _ _ _ _ _)
      
      | (with_reducible exact LeO.refl _)
      | (with_reducible exact LeO.none _)
      | (with_reducible refine LeO.ite ?_ ?_)
      | (with_reducible refine LeO.bind ?_ (fun _ => ?_))
theorem impl_MovesOf.calls (k : Nat) (A0 : Option Addr) (c0 : Nat) (l0 : List Int) (a1_0 : Int) (a1_1 : Int) (a1_2 : Int) (a1_3 : Int) (a1_4 : Int) (a1_5 : Int) (a1_6 : Int) (a1_7 : Int) (a2 : Int) (r1 : Int) (r2 : Int) (r3 : Int) (r4 : Int) (r5 : Int) (r6 : Int) (r7 : Int) (r8 : Int) (r9 : Int) (w : World) (hr0 : Kd.C (Kd.int .u8) w A0 l0.length l0) (hc0 : l0.length ≤ c0) (h : impl_MovesOf.f k l0 a1_0 a1_1 a1_2 a1_3 a1_4 a1_5 a1_6 a1_7 a2 = some (r1, r2, r3, r4, r5, r6, r7, r8, r9)) :
    Calls Try.prog 15 #[.slice A0 l0.length c0, .agg #[.int .u8 a1_0, .int .u8 a1_1, .int .u8 a1_2, .int .u8 a1_3, .int .u8 a1_4, .int .u8 a1_5, .int .u8 a1_6, .int .u8 a1_7], .int .i64 a2] w fun e w' => e = .returned (.tuple #[.agg #[.int .i64 r1, .int .i64 r2, .int .i64 r3, .int .i64 r4, .int .i64 r5, .int .i64 r6, .int .i64 r7, .int .i64 r8], .int .i64 r9]) ∧ Below w.heap.size w w' := by
  unfold impl_MovesOf.f at h
  replace h := Option.bind_eq_some_iff.mp h
  obtain ⟨v, hv, h⟩ := h
  have hv' := fun w1 hr1 => impl_ValidDigits.calls A0 c0 l0 a1_0 a1_1 a1_2 a1_3 a1_4 a1_5 a1_6 a1_7 v w1 hr1 hc0 hv
  cases v with
  | true =>
    rw [if_pos rfl] at h
    replace h := Option.bind_eq_some_iff.mp h
    obtain ⟨c, hc, h⟩ := h
    cases c with
    | true =>
      rw [if_pos rfl] at h
      by_cases h8 : l0.length ≤ 8
      · rw [if_pos h8] at h
        replace h := Option.bind_eq_some_iff.mp h
        obtain ⟨o, ho, h⟩ := h
        have hval' := fun w1 hr1 => impl_Stack_value.calls A0 c0 l0 a1_0 a1_1 a1_2 a1_3 a1_4 a1_5 a1_6 a1_7 (valZ l0 [a1_0, a1_1, a1_2, a1_3, a1_4, a1_5, a1_6, a1_7]) w1 hr1 hc0 (by unfold impl_Stack_value.f; rw [if_pos h8])
        have := movI_yes k A0 c0 l0 [a1_0, a1_1, a1_2, a1_3, a1_4, a1_5, a1_6, a1_7] rfl a2 (valZ l0 [a1_0, a1_1, a1_2, a1_3, a1_4, a1_5, a1_6, a1_7]) o hv' hval' hc h8 ho w hr0 hc0
        rw [movT_val _ _ (mvI_len _ _ _ _ _ _ ho) (Option.some.inj h)] at this
        exact this
      · rw [if_neg h8] at h
        cases h
    | false =>
      rw [if_neg (by decide)] at h
      have := movI_range A0 c0 l0 [a1_0, a1_1, a1_2, a1_3, a1_4, a1_5, a1_6, a1_7] rfl a2 hv' hc w hr0 hc0
      rw [movT_val _ _ rfl (Option.some.inj h)] at this
      exact this
  | false =>
    rw [if_neg (by decide)] at h
    have := movI_no A0 c0 l0 [a1_0, a1_1, a1_2, a1_3, a1_4, a1_5, a1_6, a1_7] rfl a2 hv' w hr0 hc0
    rw [movT_val _ _ rfl (Option.some.inj h)] at this
    exact this
end Go.Proofs.Ytcapjgjjaolofaa.P
