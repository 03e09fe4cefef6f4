/- The contracts of digits in the printed form, second part. -/
import Derived.Test.YtmmplpflbflekaaGivE
import Derived.Test.YtmmplpflbflekaaGivL
namespace Go.Proofs.Ytmmplpflbflekaa.P
open Go.RowKit Go.Proofs.YtmmplpflbflekaaW.PrintWords Go.Proofs.YtmmplpflbflekaaW.PrintLast Go.Proofs.YtmmplpflbflekaaW.PrintMore
set_option linter.unusedVariables false
def impl_ValidDigits.f (l0 : List Int) (a1_0 : Int) (a1_1 : Int) (a1_2 : Int) (a1_3 : Int) (a1_4 : Int) (a1_5 : Int) (a1_6 : Int) (a1_7 : Int) : Option Bool := some (validB l0 && digB (fun n => decide (0 < n)) l0 [a1_0, a1_1, a1_2, a1_3, a1_4, a1_5, a1_6, a1_7])
theorem impl_ValidDigits.calls (A0 : Option Addr) (c0 : Nat) (l0 : List Int) (a1_0 : Int) (a1_1 : Int) (a1_2 : Int) (a1_3 : Int) (a1_4 : Int) (a1_5 : Int) (a1_6 : Int) (a1_7 : Int) (r : Bool) (w : World) (hr0 : Kd.C (Kd.int .u8) w A0 l0.length l0) (hc0 : l0.length ≤ c0) (h : impl_ValidDigits.f l0 a1_0 a1_1 a1_2 a1_3 a1_4 a1_5 a1_6 a1_7 = some r) :
    Calls Try.prog 27 #[.slice A0 l0.length c0, .agg #[.int .u8 a1_0, .int .u8 a1_1, .int .u8 a1_2, .int .u8 a1_3, .int .u8 a1_4, .int .u8 a1_5, .int .u8 a1_6, .int .u8 a1_7]] w fun e w' => e = .returned (.bool r) ∧ Below w.heap.size w w' := by
  obtain rfl := Option.some.inj h
  exact validDigits_list A0 c0 l0 [a1_0, a1_1, a1_2, a1_3, a1_4, a1_5, a1_6, a1_7] rfl w hr0 hc0
theorem valF_from (l d : List Int) (h8 : l.length ≤ 8) : ∀ i : Nat, i ≤ l.length → valDown l d i (valF d (upto (bk8 l) (l.length - i))) = valF d (upto (bk8 l) l.length) := by
  intro i
  induction i with
  | zero => intro _; rfl
  | succ i ih =>
    intro hi
    have e : l.length - i = (l.length - (i + 1)) + 1 := by omega
    rw [← ih (by omega), e, upto_succ, valF_snoc, bk8_eq l h8 _ (by omega)]
    simp only [valDown, bk]
    rw [show (l.length : Int) - 1 - ((l.length - (i + 1) : Nat) : Int) = (i : Int) by omega]
theorem valF_all (l d : List Int) (h8 : l.length ≤ 8) : valF d (upto (bk8 l) l.length) = valZ l d := by
  rw [← valF_from l d h8 l.length (Nat.le_refl _), Nat.sub_self]
  rfl
def impl_Stack_value.f (l0 : List Int) (a1_0 : Int) (a1_1 : Int) (a1_2 : Int) (a1_3 : Int) (a1_4 : Int) (a1_5 : Int) (a1_6 : Int) (a1_7 : Int) : Option Int := if l0.length ≤ 8 then some (valZ l0 [a1_0, a1_1, a1_2, a1_3, a1_4, a1_5, a1_6, a1_7]) else none
theorem impl_Stack_value.calls (A0 : Option Addr) (c0 : Nat) (l0 : List Int) (a1_0 : Int) (a1_1 : Int) (a1_2 : Int) (a1_3 : Int) (a1_4 : Int) (a1_5 : Int) (a1_6 : Int) (a1_7 : Int) (r : Int) (w : World) (hr0 : Kd.C (Kd.int .u8) w A0 l0.length l0) (hc0 : l0.length ≤ c0) (h : impl_Stack_value.f l0 a1_0 a1_1 a1_2 a1_3 a1_4 a1_5 a1_6 a1_7 = some r) :
    Calls Try.prog 63 #[.slice A0 l0.length c0, .agg #[.int .u8 a1_0, .int .u8 a1_1, .int .u8 a1_2, .int .u8 a1_3, .int .u8 a1_4, .int .u8 a1_5, .int .u8 a1_6, .int .u8 a1_7]] w fun e w' => e = .returned (.int .i64 r) ∧ Below w.heap.size w w' := by
  unfold impl_Stack_value.f at h
  split at h
  · rename_i h8
    obtain rfl := Option.some.inj h
    rw [← valF_all l0 _ h8]
    exact (Go.callsIn_wide (n := 3)).1 (value_in _ 3 trivial trivial trivial rfl (by omega) A0 c0 l0 [a1_0, a1_1, a1_2, a1_3, a1_4, a1_5, a1_6, a1_7] rfl h8 w hr0)
  · cases h
end Go.Proofs.Ytmmplpflbflekaa.P
