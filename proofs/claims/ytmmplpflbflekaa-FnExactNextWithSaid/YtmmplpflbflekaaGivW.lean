/- Contracts of functions that the print does not take: the value of digits, as the reference reckons it. -/
import Derived.Test.YtmmplpflbflekaaGivB
namespace Go.Proofs.Ytmmplpflbflekaa.P
open Go.RowKit Go.Proofs.YtmmplpflbflekaaW.PrintWords Go.Proofs.YtmmplpflbflekaaW.PrintLast Go.Proofs.YtmmplpflbflekaaW.PrintMore
set_option linter.unusedVariables false
set_option linter.unusedSimpArgs false
/-- The value, from the last wheel down. -/
def valDown (l d : List Int) : Nat → Int → Int
  | 0, n => n
  | i + 1, n => valDown l d i (wrap64 (wrap64 (n * wrap64 (rd l i)) + wrap64 (rd d i)))
def valZ (l d : List Int) : Int := valDown l d l.length 0
set_option maxHeartbeats 8000000 in
set_option maxRecDepth 100000 in
theorem l01Value_list (A0 : Option Addr) (c0 : Nat) (l0 d : List Int) (hd : d.length = 8) (h8 : l0.length ≤ 8) (w : World) (hr0 : Kd.C (Kd.int .u8) w A0 l0.length l0) (hc0 : l0.length ≤ c0) :
    Calls Try.prog 62 #[.slice A0 l0.length c0, .agg (u8s d)] w fun e w' => e = .returned (.int .i64 (valZ l0 d)) ∧ Below w.heap.size w w' := by
  have HD := Aside0.mk hd
  have H8 := Aside0.mk h8
  have HR0 := Aside0.mk hr0
  have HC0 := Aside0.mk hc0
  have hs1 : wrap64 ((l0.length : Int) - 1) = (l0.length : Int) - 1 := Go.IntWalk.wrap64_in _ (by omega)
  have HS1 := Aside0.mk hs1
  clear hd h8 hr0 hc0 hs1
  go_enter Try.func62, Try.ntmps62
  go_wp2
  go_loopg [5, 6] l0.length (fun kq v5 v6 w' => ∃ (n x : Int), v5 = .int .i64 n ∧ v6 = .int .i64 x ∧ Aside0 (x = kq - 1 ∧ kq ≤ l0.length ∧ valDown l0 d kq n = valZ l0 d) ∧ Aside0 (Below w.heap.size w w') ∧ Aside0 (w'.heap[w.heap.size]? = some (.cells (u8s d) 35 (0, 0))))
  case atStart =>
    exact ⟨0, _, rfl, rfl, ⟨by first | rfl | exact HS1.out, Nat.le_refl _, rfl⟩, ⟨below_alloc (Below.refl _ _) _⟩, ⟨blk_new w _⟩⟩
  case round =>
    obtain ⟨n, x, rfl, rfl, HX, HW, H0⟩ := hrel
    cases gk with
    | zero =>
      have hx := HX.out
      have hb : decide (0 ≤ x) = false := decide_eq_false (by omega)
      have Hr := Aside0.mk hx.2.2.symm
      clear hx HX
      go_wp2
      go_ret
      exact ⟨by (rw [Hr.out]; first | done | rfl), HW.out⟩
    | succ k1 =>
      have hx := HX.out
      have p1 : 0 ≤ x := by omega
      have q1 : x < 8 := by have := H8.out; omega
      have q2 : x < (l0.length : Int) := by omega
      have hb : decide (0 ≤ x) = true := decide_eq_true p1
      have hcd := blk_u8 H0.out x p1 (by have := HD.out; omega)
      obtain ⟨ad, e, hcs⟩ := Kd.at_int (Kd.C_below HR0.out HW.out) x p1 q2
      cases e
      have hw : wrap64 (x - 1) = x - 1 := Go.IntWalk.wrap64_in _ (by omega)
      have HN := Aside0.mk (show wrap64 (x - 1) = k1 - 1 ∧ k1 ≤ l0.length ∧ valDown l0 d k1 (wrap64 (wrap64 (n * wrap64 (rd l0 x)) + wrap64 (rd d x))) = valZ l0 d by
        rw [hw]
        refine ⟨by omega, by omega, ?_⟩
        rw [← hx.2.2, show x = (k1 : Int) by omega]
        rfl)
      clear hx hw HX
      replace p1 := eq_true p1
      replace q1 := eq_true q1
      replace q2 := eq_true q2
      go_wp2
      go_quiet (fail)
      go_wp2
      go_roundg k1
      case measure => omega
      case rel => exact ⟨_, _, rfl, rfl, HN, ⟨pw_below_drewN HW.out _⟩, ⟨H0.out⟩⟩
end Go.Proofs.Ytmmplpflbflekaa.P
