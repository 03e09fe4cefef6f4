/- Contracts of functions that the print does not take: digits are valid, as the program asks; the value of digits, as the reference reckons it. -/
import Derived.Test.YtmmplpflbflekaaGivD
import Derived.Test.YtmmplpflbflekaaGivV
namespace Go.Proofs.Ytmmplpflbflekaa.P
open Go.RowKit Go.Proofs.YtmmplpflbflekaaW.PrintWords Go.Proofs.YtmmplpflbflekaaW.PrintLast Go.Proofs.YtmmplpflbflekaaW.PrintMore
set_option linter.unusedVariables false
set_option linter.unusedSimpArgs false
set_option maxHeartbeats 8000000 in
set_option maxRecDepth 100000 in
theorem validDigits_list (A0 : Option Addr) (c0 : Nat) (l0 d : List Int) (hd : d.length = 8) (w : World) (hr0 : Kd.C (Kd.int .u8) w A0 l0.length l0) (hc0 : l0.length ≤ c0) :
    Calls Try.prog 27 #[.slice A0 l0.length c0, .agg (u8s d)] w fun e w' => e = .returned (.bool (validB l0 && digB (fun n => decide (0 < n)) l0 d)) ∧ Below w.heap.size w w' := by
  have HD := Aside0.mk hd
  have HR0 := Aside0.mk hr0
  have HC0 := Aside0.mk hc0
  have HI := Aside0.mk (info_u8 d hd)
  have hix := index_u8 d hd
  have HIX := Aside0.mk hix
  clear hd hr0 hc0 hix
  have hb0 := blk_new w (.cells (u8s d) 35)
  have HB0 := Aside0.mk hb0
  clear hb0
  by_cases hv : validB l0 = true
  · have HV := Aside0.mk (show impl_ValidStack.f l0 = some true by unfold impl_ValidStack.f; rw [hv])
    have HVB := Aside0.mk hv
    clear hv
    go_enter Try.func27, Try.ntmps27
    go_wp2_with (first | (go_at_call 20; refine (impl_ValidStack.calls _ _ l0 _ _ ?sz HC0.out HV.out).mono ?_; (case sz => repeat (first | exact HR0.out | (with_reducible refine Kd.C_alloc ?_ _) | (with_reducible refine Kd.C_drewN ?_ _) | (with_reducible refine Kd.C_drew ?_))); rintro e w1 ⟨rfl, hbel⟩; have HBEL := Aside0.mk hbel; clear hbel; have HB1 := Aside0.mk (blk_below HB0.out HBEL.out); have HW1 := Aside0.mk ((below_alloc (Below.refl w.heap.size w) _).trans (HBEL.out.mono (by simp)))) | (refine wpList_load_row rfl 35 (.tmp 3) rfl w.heap.size rfl 35 (u8s d) (0, 0) _ HB1.out Try.underlying35 rfl HI.out ?_))
    go_loopg [11] 8 (fun kq v11 w' => ∃ (x : Int), v11 = .int .i64 x ∧ Aside0 (0 ≤ x ∧ x + kq = 8 ∧ digB (fun n => decide (0 < n)) (l0.drop x.toNat) (d.drop x.toNat) = digB (fun n => decide (0 < n)) l0 d) ∧ Aside0 (Below w.heap.size w w'))
    case atStart => exact ⟨0, rfl, ⟨by omega, by omega, by simp⟩, HW1⟩
    case round =>
      clear HW1 HBEL HB1 HB0
      obtain ⟨x, rfl, HX, HW⟩ := hrel
      cases gk with
      | zero =>
        have hx := HX.out
        have hb : decide (x < 8) = false := decide_eq_false (by omega)
        have hres : (validB l0 && digB (fun n => decide (0 < n)) l0 d) = true := by
          rw [HVB.out, ← hx.2.2, show d.drop x.toNat = [] from List.drop_eq_nil_of_le (by have := HD.out; omega)]
          cases l0.drop x.toNat <;> rfl
        have Hr := Aside0.mk hres
        clear hx hres HX
        go_wp2
        go_ret
        exact ⟨by (rw [Hr.out]; first | done | rfl), HW.out⟩
      | succ k1 =>
        have hx := HX.out
        have p1 : 0 ≤ x := hx.1
        have q1 : x < 8 := by omega
        have hb : decide (x < 8) = true := decide_eq_true q1
        have hix := HIX.out x p1 q1
        have hw : wrap64 (x + 1) = x + 1 := Go.IntWalk.wrap64_in _ (by omega)
        by_cases hin : x < (l0.length : Int)
        · have hin1 : decide (x < (l0.length : Int)) = true := decide_eq_true hin
          have hin2 : decide ((l0.length : Int) ≤ x) = false := decide_eq_false (by omega)
          have hdg := digB_in (fun n => decide (0 < n)) l0 d x p1 (by have := HD.out; omega) hin
          obtain ⟨ad, e, hcs⟩ := Kd.at_int (Kd.C_below HR0.out HW.out) x p1 hin
          cases e
          by_cases hlt : rd d x < rd l0 x
          · have hge : decide (rd l0 x ≤ rd d x) = false := decide_eq_false (by omega)
            have HN := Aside0.mk (show 0 ≤ wrap64 (x + 1) ∧ wrap64 (x + 1) + k1 = 8 ∧ digB (fun n => decide (0 < n)) (l0.drop (wrap64 (x + 1)).toNat) (d.drop (wrap64 (x + 1)).toNat) = digB (fun n => decide (0 < n)) l0 d by
              rw [hw]
              exact ⟨by omega, by omega, by rw [← hx.2.2, hdg, decide_eq_true hlt]; rfl⟩)
            clear hx hw HX hdg hlt
            replace p1 := eq_true p1
            replace q1 := eq_true q1
            replace hin := eq_true hin
            go_wp2
            go_roundg k1
            case measure => omega
            case rel => exact ⟨wrap64 (x + 1), rfl, HN, HW⟩
          · have hge : decide (rd l0 x ≤ rd d x) = true := decide_eq_true (by omega)
            have Hr := Aside0.mk (show (validB l0 && digB (fun n => decide (0 < n)) l0 d) = false by rw [HVB.out, ← hx.2.2, hdg, decide_eq_false hlt]; rfl)
            clear hx hw HX hdg hlt
            replace p1 := eq_true p1
            replace q1 := eq_true q1
            replace hin := eq_true hin
            go_wp2
            go_ret
            exact ⟨by (rw [Hr.out]; first | done | rfl), HW.out⟩
        · have hin1 : decide (x < (l0.length : Int)) = false := decide_eq_false hin
          have hin2 : decide ((l0.length : Int) ≤ x) = true := decide_eq_true (by omega)
          have hdg := digB_out (fun n => decide (0 < n)) l0 d x p1 (by have := HD.out; omega) (by omega)
          by_cases hz : 0 < rd d x
          · have hne : decide (0 < rd d x) = true := decide_eq_true hz
            have Hr := Aside0.mk (show (validB l0 && digB (fun n => decide (0 < n)) l0 d) = false by rw [HVB.out, ← hx.2.2, hdg, hne]; rfl)
            clear hx hw HX hdg hz hin
            replace p1 := eq_true p1
            replace q1 := eq_true q1
            go_wp2
            go_ret
            exact ⟨by (rw [Hr.out]; first | done | rfl), HW.out⟩
          · have hne : decide (0 < rd d x) = false := decide_eq_false hz
            have HN := Aside0.mk (show 0 ≤ wrap64 (x + 1) ∧ wrap64 (x + 1) + k1 = 8 ∧ digB (fun n => decide (0 < n)) (l0.drop (wrap64 (x + 1)).toNat) (d.drop (wrap64 (x + 1)).toNat) = digB (fun n => decide (0 < n)) l0 d by
              rw [hw]
              exact ⟨by omega, by omega, by rw [← hx.2.2, hdg, hne]; rfl⟩)
            clear hx hw HX hdg hz hin
            replace p1 := eq_true p1
            replace q1 := eq_true q1
            go_wp2
            go_roundg k1
            case measure => omega
            case rel => exact ⟨wrap64 (x + 1), rfl, HN, HW⟩
  · have HV := Aside0.mk (show impl_ValidStack.f l0 = some false by unfold impl_ValidStack.f; rw [Bool.eq_false_iff.mpr hv])
    have Hr := Aside0.mk (show (validB l0 && digB (fun n => decide (0 < n)) l0 d) = false by rw [Bool.eq_false_iff.mpr hv]; rfl)
    clear hv
    go_enter Try.func27, Try.ntmps27
    go_wp2_with (first | (go_at_call 20; refine (impl_ValidStack.calls _ _ l0 _ _ ?sz HC0.out HV.out).mono ?_; (case sz => repeat (first | exact HR0.out | (with_reducible refine Kd.C_alloc ?_ _) | (with_reducible refine Kd.C_drewN ?_ _) | (with_reducible refine Kd.C_drew ?_))); rintro e w1 ⟨rfl, hbel⟩; have HBEL := Aside0.mk hbel; clear hbel; have HW1 := Aside0.mk ((below_alloc (Below.refl w.heap.size w) _).trans (HBEL.out.mono (by simp)))))
    go_ret
    exact ⟨by (rw [Hr.out]; first | done | rfl), HW1.out⟩
end Go.Proofs.Ytmmplpflbflekaa.P
