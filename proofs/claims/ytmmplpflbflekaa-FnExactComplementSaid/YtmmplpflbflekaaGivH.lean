/- The contracts of the complement in the printed form. -/
import Derived.Test.YtmmplpflbflekaaGivC3
import Derived.Test.YtmmplpflbflekaaGivG
import Derived.Test.YtmmplpflbflekaaGivF
import Derived.Test.YtmmplpflbflekaaPx13
namespace Go.Proofs.Ytmmplpflbflekaa.P
open Go.RowKit Go.Proofs.YtmmplpflbflekaaW.PrintWords Go.Proofs.YtmmplpflbflekaaW.PrintLast Go.Proofs.YtmmplpflbflekaaW.PrintMore
set_option linter.unusedVariables false
/-- What comes of it, digit by digit, with the code 0. -/
def compT (l d : List Int) : Int × Int × Int × Int × Int × Int × Int × Int × Int := ((compL l d).getD 0 0, (compL l d).getD 1 0, (compL l d).getD 2 0, (compL l d).getD 3 0, (compL l d).getD 4 0, (compL l d).getD 5 0, (compL l d).getD 6 0, (compL l d).getD 7 0, 0)
theorem compT_eq (l d : List Int) : compT l d = ((compL l d).getD 0 0, (compL l d).getD 1 0, (compL l d).getD 2 0, (compL l d).getD 3 0, (compL l d).getD 4 0, (compL l d).getD 5 0, (compL l d).getD 6 0, (compL l d).getD 7 0, 0) := rfl
theorem comp_u8s (l d : List Int) {r1 r2 r3 r4 r5 r6 r7 r8 r9 : Int} (h : ((compL l d).getD 0 0, (compL l d).getD 1 0, (compL l d).getD 2 0, (compL l d).getD 3 0, (compL l d).getD 4 0, (compL l d).getD 5 0, (compL l d).getD 6 0, (compL l d).getD 7 0, (0 : Int)) = (r1, r2, r3, r4, r5, r6, r7, r8, r9)) (hd : d.length = 8 := by rfl) :
    (Value.tuple #[.agg (u8s (compL l d)), .int .i64 0]) = .tuple #[.agg #[.int .u8 r1, .int .u8 r2, .int .u8 r3, .int .u8 r4, .int .u8 r5, .int .u8 r6, .int .u8 r7, .int .u8 r8], .int .i64 r9] := by
  obtain ⟨c0, c1, c2, c3, c4, c5, c6, c7, e⟩ := list8 (show (compL l d).length = 8 by rw [compL_len]; exact hd)
  rw [e] at h ⊢
  simp only [Prod.mk.injEq] at h
  obtain ⟨rfl, rfl, rfl, rfl, rfl, rfl, rfl, rfl, rfl⟩ := h
  rfl
def spec_Complement.f (k : Nat) (l0 : List Int) (a1_0 : Int) (a1_1 : Int) (a1_2 : Int) (a1_3 : Int) (a1_4 : Int) (a1_5 : Int) (a1_6 : Int) (a1_7 : Int) : Option (Int × Int × Int × Int × Int × Int × Int × Int × Int) := (spec_ValidDigits.f k l0 a1_0 a1_1 a1_2 a1_3 a1_4 a1_5 a1_6 a1_7).bind fun v => if v = true then (if l0.length ≤ 8 then some (compT l0 [a1_0, a1_1, a1_2, a1_3, a1_4, a1_5, a1_6, a1_7]) else none) else some (0, 0, 0, 0, 0, 0, 0, 0, 1)
theorem spec_Complement.mono : ∀ l0 a1_0 a1_1 a1_2 a1_3 a1_4 a1_5 a1_6 a1_7 k, LeO (spec_Complement.f k l0 a1_0 a1_1 a1_2 a1_3 a1_4 a1_5 a1_6 a1_7) (spec_Complement.f (k + 1) l0 a1_0 a1_1 a1_2 a1_3 a1_4 a1_5 a1_6 a1_7) := by
  intro l0 a1_0 a1_1 a1_2 a1_3 a1_4 a1_5 a1_6 a1_7 k
  unfold spec_Complement.f
  repeat' first
      | (with_reducible exact spec_ValidDigits.mono _ _ _ _ _ _ _ _ _ _)
      | (with_reducible exact LeO.refl _)
      | (with_reducible exact LeO.none _)
      | (with_reducible refine LeO.ite ?_ ?_)
      | (with_reducible refine LeO.bind ?_ (fun _ => ?_))
theorem spec_Complement.calls (k : Nat) (A0 : Option Addr) (c0 : Nat) (l0 : List Int) (a1_0 : Int) (a1_1 : Int) (a1_2 : Int) (a1_3 : Int) (a1_4 : Int) (a1_5 : Int) (a1_6 : Int) (a1_7 : Int) (r1 : Int) (r2 : Int) (r3 : Int) (r4 : Int) (r5 : Int) (r6 : Int) (r7 : Int) (r8 : Int) (r9 : Int) (w : World) (hr0 : Kd.C (Kd.int .u8) w A0 l0.length l0) (hc0 : l0.length ≤ c0) (h : spec_Complement.f k l0 a1_0 a1_1 a1_2 a1_3 a1_4 a1_5 a1_6 a1_7 = some (r1, r2, r3, r4, r5, r6, r7, r8, r9)) :
    Calls Try.prog 30 #[.slice A0 l0.length c0, .agg #[.int .u8 a1_0, .int .u8 a1_1, .int .u8 a1_2, .int .u8 a1_3, .int .u8 a1_4, .int .u8 a1_5, .int .u8 a1_6, .int .u8 a1_7]] w fun e w' => e = .returned (.tuple #[.agg #[.int .u8 r1, .int .u8 r2, .int .u8 r3, .int .u8 r4, .int .u8 r5, .int .u8 r6, .int .u8 r7, .int .u8 r8], .int .i64 r9]) ∧ Below w.heap.size w w' := by
  unfold spec_Complement.f at h
  replace h := Option.bind_eq_some_iff.mp h
  obtain ⟨v, hv, h⟩ := h
  have hv' := fun w1 hr1 => spec_ValidDigits.calls k A0 c0 l0 a1_0 a1_1 a1_2 a1_3 a1_4 a1_5 a1_6 a1_7 v w1 hr1 hc0 hv
  cases v with
  | true =>
    rw [if_pos rfl] at h
    split at h
    · rename_i h8
      injection h with h
      rw [compT_eq] at h
      have := complementS_yes A0 c0 l0 [a1_0, a1_1, a1_2, a1_3, a1_4, a1_5, a1_6, a1_7] rfl h8 w hr0 hc0 hv'
      rw [comp_u8s _ _ h] at this
      exact this
    · cases h
  | false =>
    rw [if_neg (by decide)] at h
    injection h with h
    obtain ⟨rfl, rfl, rfl, rfl, rfl, rfl, rfl, rfl, rfl⟩ := by simpa only [Prod.mk.injEq] using h
    exact complementS_no A0 c0 l0 [a1_0, a1_1, a1_2, a1_3, a1_4, a1_5, a1_6, a1_7] rfl w hr0 hc0 hv'
def impl_Complement.f (l0 : List Int) (a1_0 : Int) (a1_1 : Int) (a1_2 : Int) (a1_3 : Int) (a1_4 : Int) (a1_5 : Int) (a1_6 : Int) (a1_7 : Int) : Option (Int × Int × Int × Int × Int × Int × Int × Int × Int) := (impl_ValidDigits.f l0 a1_0 a1_1 a1_2 a1_3 a1_4 a1_5 a1_6 a1_7).bind fun v => if v = true then (if l0.length ≤ 8 then some (compT l0 [a1_0, a1_1, a1_2, a1_3, a1_4, a1_5, a1_6, a1_7]) else none) else some (0, 0, 0, 0, 0, 0, 0, 0, 1)
theorem impl_Complement.calls (A0 : Option Addr) (c0 : Nat) (l0 : List Int) (a1_0 : Int) (a1_1 : Int) (a1_2 : Int) (a1_3 : Int) (a1_4 : Int) (a1_5 : Int) (a1_6 : Int) (a1_7 : Int) (r1 : Int) (r2 : Int) (r3 : Int) (r4 : Int) (r5 : Int) (r6 : Int) (r7 : Int) (r8 : Int) (r9 : Int) (w : World) (hr0 : Kd.C (Kd.int .u8) w A0 l0.length l0) (hc0 : l0.length ≤ c0) (h : impl_Complement.f l0 a1_0 a1_1 a1_2 a1_3 a1_4 a1_5 a1_6 a1_7 = some (r1, r2, r3, r4, r5, r6, r7, r8, r9)) :
    Calls Try.prog 31 #[.slice A0 l0.length c0, .agg #[.int .u8 a1_0, .int .u8 a1_1, .int .u8 a1_2, .int .u8 a1_3, .int .u8 a1_4, .int .u8 a1_5, .int .u8 a1_6, .int .u8 a1_7]] w fun e w' => e = .returned (.tuple #[.agg #[.int .u8 r1, .int .u8 r2, .int .u8 r3, .int .u8 r4, .int .u8 r5, .int .u8 r6, .int .u8 r7, .int .u8 r8], .int .i64 r9]) ∧ Below w.heap.size w w' := by
  unfold impl_Complement.f at h
  replace h := Option.bind_eq_some_iff.mp h
  obtain ⟨v, hv, h⟩ := h
  have hv' := fun w1 hr1 => impl_ValidDigits.calls A0 c0 l0 a1_0 a1_1 a1_2 a1_3 a1_4 a1_5 a1_6 a1_7 v w1 hr1 hc0 hv
  cases v with
  | true =>
    rw [if_pos rfl] at h
    split at h
    · rename_i h8
      injection h with h
      rw [compT_eq] at h
      have := complement_yes A0 c0 l0 [a1_0, a1_1, a1_2, a1_3, a1_4, a1_5, a1_6, a1_7] rfl h8 w hr0 hc0 hv'
      rw [comp_u8s _ _ h] at this
      exact this
    · cases h
  | false =>
    rw [if_neg (by decide)] at h
    injection h with h
    obtain ⟨rfl, rfl, rfl, rfl, rfl, rfl, rfl, rfl, rfl⟩ := by simpa only [Prod.mk.injEq] using h
    exact complement_no A0 c0 l0 [a1_0, a1_1, a1_2, a1_3, a1_4, a1_5, a1_6, a1_7] rfl w hr0 hc0 hv'
end Go.Proofs.Ytmmplpflbflekaa.P
