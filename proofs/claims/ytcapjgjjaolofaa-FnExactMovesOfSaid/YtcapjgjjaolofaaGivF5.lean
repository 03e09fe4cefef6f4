/- The contracts of digits in the printed form, for a seat where DigF holds the digits as such. -/
import Derived.Test.YtcapjgjjaolofaaDigF
import Derived.Test.YtcapjgjjaolofaaGivD
import Derived.Test.YtcapjgjjaolofaaGivW
namespace Go.Proofs.Ytcapjgjjaolofaa.P
open Go.RowKit Go.Proofs.YtcapjgjjaolofaaW.PrintWords Go.Proofs.YtcapjgjjaolofaaW.PrintLast Go.Proofs.YtcapjgjjaolofaaW.PrintMore
set_option linter.unusedVariables false
def spec_l01Digits.f (l0 : List Int) (a1_0 : Int) (a1_1 : Int) (a1_2 : Int) (a1_3 : Int) (a1_4 : Int) (a1_5 : Int) (a1_6 : Int) (a1_7 : Int) : Option Bool := some (digB (fun n => n != 0) l0 [a1_0, a1_1, a1_2, a1_3, a1_4, a1_5, a1_6, a1_7])
theorem spec_l01Digits.calls (A0 : Option Addr) (c0 : Nat) (l0 : List Int) (a1_0 : Int) (a1_1 : Int) (a1_2 : Int) (a1_3 : Int) (a1_4 : Int) (a1_5 : Int) (a1_6 : Int) (a1_7 : Int) (r : Bool) (w : World) (hr0 : Kd.C (Kd.int .u8) w A0 l0.length l0) (hc0 : l0.length ≤ c0) (h : spec_l01Digits.f l0 a1_0 a1_1 a1_2 a1_3 a1_4 a1_5 a1_6 a1_7 = some r) :
    Calls Try.prog 86 #[.slice A0 l0.length c0, .agg #[.int .u8 a1_0, .int .u8 a1_1, .int .u8 a1_2, .int .u8 a1_3, .int .u8 a1_4, .int .u8 a1_5, .int .u8 a1_6, .int .u8 a1_7]] w fun e w' => e = .returned (.bool r) ∧ Below w.heap.size w w' := by
  obtain rfl := Option.some.inj h
  exact l01Digits_list A0 c0 l0 [a1_0, a1_1, a1_2, a1_3, a1_4, a1_5, a1_6, a1_7] rfl w hr0 hc0
def spec_l01Value.f (l0 : List Int) (a1_0 : Int) (a1_1 : Int) (a1_2 : Int) (a1_3 : Int) (a1_4 : Int) (a1_5 : Int) (a1_6 : Int) (a1_7 : Int) : Option Int := if l0.length ≤ 8 then some (valZ l0 [a1_0, a1_1, a1_2, a1_3, a1_4, a1_5, a1_6, a1_7]) else none
theorem spec_l01Value.calls (A0 : Option Addr) (c0 : Nat) (l0 : List Int) (a1_0 : Int) (a1_1 : Int) (a1_2 : Int) (a1_3 : Int) (a1_4 : Int) (a1_5 : Int) (a1_6 : Int) (a1_7 : Int) (r : Int) (w : World) (hr0 : Kd.C (Kd.int .u8) w A0 l0.length l0) (hc0 : l0.length ≤ c0) (h : spec_l01Value.f l0 a1_0 a1_1 a1_2 a1_3 a1_4 a1_5 a1_6 a1_7 = some r) :
    Calls Try.prog 44 #[.slice A0 l0.length c0, .agg #[.int .u8 a1_0, .int .u8 a1_1, .int .u8 a1_2, .int .u8 a1_3, .int .u8 a1_4, .int .u8 a1_5, .int .u8 a1_6, .int .u8 a1_7]] w fun e w' => e = .returned (.int .i64 r) ∧ Below w.heap.size w w' := by
  unfold spec_l01Value.f at h
  split at h
  · rename_i h8
    obtain rfl := Option.some.inj h
    exact l01Value_list A0 c0 l0 [a1_0, a1_1, a1_2, a1_3, a1_4, a1_5, a1_6, a1_7] rfl h8 w hr0 hc0
  · cases h
end Go.Proofs.Ytcapjgjjaolofaa.P
