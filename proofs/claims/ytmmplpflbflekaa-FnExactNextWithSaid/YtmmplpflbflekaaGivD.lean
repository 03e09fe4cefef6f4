/- Contracts of functions that the print does not take: digits are valid. -/
import Derived.Test.YtmmplpflbflekaaGivA
namespace Go.Proofs.Ytmmplpflbflekaa.P
open Go.RowKit Go.Proofs.YtmmplpflbflekaaW.PrintWords Go.Proofs.YtmmplpflbflekaaW.PrintLast Go.Proofs.YtmmplpflbflekaaW.PrintMore
set_option linter.unusedVariables false
set_option linter.unusedSimpArgs false
theorem index_u8 (l : List Int) (h8 : l.length = 8) (x : Int) (h0 : 0 ≤ x) (h1 : x < 8) : ∀ w, (Instr.index 35 (.agg (u8s l)) (.int .i64 x)).run Try.prog w = .ok (.int .u8 (rd l x)) w := by
  intro w
  have hn : 0 ≤ x ∧ x < (8 : Nat) := ⟨h0, by omega⟩
  simp [Instr.index, run_underlying Try.underlying35, asIntOf, hn, go_sem]
  rw [if_pos h1, u8s_get l x.toNat (by omega)]
  rfl
/-- Are digits right for bases? 'bad': a digit where no wheel is. -/
def digB (bad : Int → Bool) : List Int → List Int → Bool
  | _, [] => true
  | [], n :: d => !bad n && digB bad [] d
  | b :: l, n :: d => decide (n < b) && digB bad l d
theorem digB_in (bad : Int → Bool) (l d : List Int) (x : Int) (h0 : 0 ≤ x) (h1 : x < d.length) (h2 : x < l.length) : digB bad (l.drop x.toNat) (d.drop x.toNat) = (decide (rd d x < rd l x) && digB bad (l.drop (x + 1).toNat) (d.drop (x + 1).toNat)) := by
  rw [drop_rd l x h0 h2, drop_rd d x h0 h1]
  rfl
theorem digB_out (bad : Int → Bool) (l d : List Int) (x : Int) (h0 : 0 ≤ x) (h1 : x < d.length) (h2 : (l.length : Int) ≤ x) : digB bad (l.drop x.toNat) (d.drop x.toNat) = (!bad (rd d x) && digB bad (l.drop (x + 1).toNat) (d.drop (x + 1).toNat)) := by
  have e1 : l.drop x.toNat = [] := List.drop_eq_nil_of_le (by omega)
  have e2 : l.drop (x + 1).toNat = [] := List.drop_eq_nil_of_le (by omega)
  rw [e1, e2, drop_rd d x h0 h1]
  rfl
set_option maxHeartbeats 8000000 in
set_option maxRecDepth 100000 in
theorem l01Digits_list (A0 : Option Addr) (c0 : Nat) (l0 d : List Int) (hd : d.length = 8) (w : World) (hr0 : Kd.C (Kd.int .u8) w A0 l0.length l0) (hc0 : l0.length ≤ c0) :
    Calls Try.prog 56 #[.slice A0 l0.length c0, .agg (u8s d)] w fun e w' => e = .returned (.bool (digB (fun n => n != 0) l0 d)) ∧ Below w.heap.size w w' := by
  have HD := Aside0.mk hd
  have HR0 := Aside0.mk hr0
  have HC0 := Aside0.mk hc0
  clear hd hr0 hc0
  go_enter Try.func56, Try.ntmps56
  go_wp2
  go_loopg [5] 8 (fun kq v5 w' => ∃ (x : Int), v5 = .int .i64 x ∧ Aside0 (0 ≤ x ∧ x + kq = 8 ∧ digB (fun n => n != 0) (l0.drop x.toNat) (d.drop x.toNat) = digB (fun n => n != 0) l0 d) ∧ Aside0 (Below w.heap.size w w') ∧ Aside0 (w'.heap[w.heap.size]? = some (.cells (u8s d) 35 (0, 0))))
  case atStart =>
    exact ⟨0, rfl, ⟨by omega, by omega, by simp⟩, ⟨below_alloc (Below.refl _ _) _⟩, ⟨blk_new w _⟩⟩
  case round =>
    obtain ⟨x, rfl, HX, HW, H0⟩ := hrel
    cases gk with
    | zero =>
      have hx := HX.out
      have hb : decide (x < 8) = false := decide_eq_false (by omega)
      have hres : digB (fun n => n != 0) l0 d = true := by
        rw [← hx.2.2, show d.drop x.toNat = [] from List.drop_eq_nil_of_le (by have := HD.out; omega)]
        cases l0.drop x.toNat <;> rfl
      have Hr := Aside0.mk hres
      clear hx hres HX
      go_wp2
      go_ret
      exact ⟨by (rw [Hr.out]; first | done | rfl), HW.out⟩
    | succ k1 =>
      have hx := HX.out
      have p1 : 0 ≤ x := hx.1
      have q1 : x < 8 := by omega
      have hb : decide (x < 8) = true := decide_eq_true q1
      have hcd := blk_u8 H0.out x p1 (by have := HD.out; omega)
      have hw : wrap64 (x + 1) = x + 1 := Go.IntWalk.wrap64_in _ (by omega)
      by_cases hin : x < (l0.length : Int)
      · have hin1 : decide (x < (l0.length : Int)) = true := decide_eq_true hin
        have hin2 : decide ((l0.length : Int) ≤ x) = false := decide_eq_false (by omega)
        have hdg := digB_in (fun n => n != 0) l0 d x p1 (by have := HD.out; omega) hin
        obtain ⟨ad, e, hcs⟩ := Kd.at_int (Kd.C_below HR0.out HW.out) x p1 hin
        cases e
        by_cases hlt : rd d x < rd l0 x
        · have hge : decide (rd l0 x ≤ rd d x) = false := decide_eq_false (by omega)
          have HN := Aside0.mk (show 0 ≤ wrap64 (x + 1) ∧ wrap64 (x + 1) + k1 = 8 ∧ digB (fun n => n != 0) (l0.drop (wrap64 (x + 1)).toNat) (d.drop (wrap64 (x + 1)).toNat) = digB (fun n => n != 0) l0 d by
            rw [hw]
            exact ⟨by omega, by omega, by rw [← hx.2.2, hdg, decide_eq_true hlt]; rfl⟩)
          clear hx hw HX hdg hlt
          replace p1 := eq_true p1
          replace q1 := eq_true q1
          replace hin := eq_true hin
          go_wp2
          go_quiet (fail)
          go_wp2
          go_roundg k1
          case measure => omega
          case rel => exact ⟨wrap64 (x + 1), rfl, HN, ⟨pw_below_drewN HW.out _⟩, ⟨H0.out⟩⟩
        · have hge : decide (rd l0 x ≤ rd d x) = true := decide_eq_true (by omega)
          have Hr := Aside0.mk (show digB (fun n => n != 0) l0 d = false by rw [← hx.2.2, hdg, decide_eq_false hlt]; rfl)
          clear hx hw HX hdg hlt
          replace p1 := eq_true p1
          replace q1 := eq_true q1
          replace hin := eq_true hin
          go_wp2
          go_quiet (fail)
          go_wp2
          go_ret
          exact ⟨by (rw [Hr.out]; first | done | rfl), pw_below_drewN HW.out _⟩
      · have hin1 : decide (x < (l0.length : Int)) = false := decide_eq_false hin
        have hin2 : decide ((l0.length : Int) ≤ x) = true := decide_eq_true (by omega)
        have hdg := digB_out (fun n => n != 0) l0 d x p1 (by have := HD.out; omega) (by omega)
        by_cases hz : rd d x = 0
        · have hne : (rd d x != 0) = false := by simpa using hz
          have HN := Aside0.mk (show 0 ≤ wrap64 (x + 1) ∧ wrap64 (x + 1) + k1 = 8 ∧ digB (fun n => n != 0) (l0.drop (wrap64 (x + 1)).toNat) (d.drop (wrap64 (x + 1)).toNat) = digB (fun n => n != 0) l0 d by
            rw [hw]
            exact ⟨by omega, by omega, by rw [← hx.2.2, hdg, hne]; rfl⟩)
          clear hx hw HX hdg hz hin
          replace p1 := eq_true p1
          replace q1 := eq_true q1
          go_wp2
          go_quiet (fail)
          go_wp2
          go_roundg k1
          case measure => omega
          case rel => exact ⟨wrap64 (x + 1), rfl, HN, ⟨pw_below_drewN HW.out _⟩, ⟨H0.out⟩⟩
        · have hne : (rd d x != 0) = true := by simpa using hz
          have Hr := Aside0.mk (show digB (fun n => n != 0) l0 d = false by rw [← hx.2.2, hdg, hne]; rfl)
          clear hx hw HX hdg hz hin
          replace p1 := eq_true p1
          replace q1 := eq_true q1
          go_wp2
          go_quiet (fail)
          go_wp2
          go_ret
          exact ⟨by (rw [Hr.out]; first | done | rfl), pw_below_drewN HW.out _⟩
end Go.Proofs.Ytmmplpflbflekaa.P
