/- The contract of eqInt64A8 in the printed form. -/
import Derived.Test.YtcapjgjjaolofaaPartsA
namespace Go.Proofs.Ytcapjgjjaolofaa.P
open Go.RowKit Go.Proofs.YtcapjgjjaolofaaW.PrintWords Go.Proofs.YtcapjgjjaolofaaW.PrintLast Go.Proofs.YtcapjgjjaolofaaW.PrintMore
set_option linter.unusedVariables false
set_option linter.unusedSimpArgs false
theorem info_a8 : (Try.prog.info? 24).map (·.size) = some 8 := by kernel_rfl
theorem info_a64 (l : List Int) (h : l.length = 8) : (Try.prog.info? 24).map (·.size) = some (i64s l).size := by rw [info_a8, i64s_size, h]
set_option maxHeartbeats 8000000 in
set_option maxRecDepth 100000 in
theorem eqA8_list (a b : List Int) (ha : a.length = 8) (hb : b.length = 8) (w : World) : Calls Try.prog 16 #[.agg (i64s a), .agg (i64s b)] w fun e w' => e = .returned (.bool (decide (a = b))) ∧ Below w.heap.size w w' := by
  have HA := Aside0.mk ha
  have HB := Aside0.mk hb
  clear ha hb
  go_enter Try.func16, Try.ntmps16
  go_wp2
  go_loopg [5] 8 (fun kq v5 w' => ∃ (x : Int), v5 = .int .i64 x ∧ Aside0 (0 ≤ x ∧ x + kq = 8 ∧ (a = b ↔ a.drop x.toNat = b.drop x.toNat)) ∧ Aside0 (Below w.heap.size w w') ∧ Aside0 (w'.heap[w.heap.size]? = some (.cells (i64s a) 24 (0, 0))) ∧ Aside0 (w'.heap[w.heap.size + 1]? = some (.cells (i64s b) 24 (0, 0))))
  case atStart =>
    refine ⟨0, rfl, ⟨by omega, by omega, by simp⟩, ⟨below_alloc (below_alloc (Below.refl _ _) _) _⟩, ⟨blk_alloc (blk_new w _) _⟩, ⟨?_⟩⟩
    have := blk_new (w.alloc (.cells (i64s a) 24)) (.cells (i64s b) 24)
    simpa using this
  case round =>
    obtain ⟨x, rfl, HX, HW, H0, H1⟩ := hrel
    cases gk with
    | zero =>
      have hx := HX.out
      have hb : decide (x < 8) = false := decide_eq_false (by omega)
      have hres : decide (a = b) = true := by
        rw [decide_eq_true_eq, hx.2.2, List.drop_eq_nil_of_le (by have := HA.out; omega), List.drop_eq_nil_of_le (by have := HB.out; omega)]
      have Hr := Aside0.mk hres
      clear hx hres HX
      go_wp2
      go_ret
      exact ⟨by (rw [Hr.out]; first | done | rfl), HW.out⟩
    | succ k1 =>
      have hx := HX.out
      have p1 : 0 ≤ x := hx.1
      have q1 : x < 8 := by omega
      have hb : decide (x < 8) = true := decide_eq_true q1
      have hc0 := blk_i64 H0.out x p1 (by have := HA.out; omega)
      have hc1 := blk_i64 H1.out x p1 (by have := HB.out; omega)
      have hd := rd_drop_eq a b x p1 (by have := HA.out; omega) (by have := HA.out; have := HB.out; omega)
      have hw : wrap64 (x + 1) = x + 1 := Go.IntWalk.wrap64_in _ (by omega)
      by_cases hne : rd a x = rd b x
      · have hn1 : (rd a x != rd b x) = false := by simpa using hne
        have HN := Aside0.mk (show 0 ≤ wrap64 (x + 1) ∧ wrap64 (x + 1) + k1 = 8 ∧ (a = b ↔ a.drop (wrap64 (x + 1)).toNat = b.drop (wrap64 (x + 1)).toNat) by
          rw [hw]
          exact ⟨by omega, by omega, by rw [hx.2.2, hd]; exact ⟨fun h => h.2, fun h => ⟨hne, h⟩⟩⟩)
        clear hx hw HX hd hne
        replace p1 := eq_true p1
        replace q1 := eq_true q1
        go_wp2
        go_quiet (fail)
        go_wp2
        go_roundg k1
        case measure => omega
        case rel =>
          exact ⟨wrap64 (x + 1), rfl, HN, ⟨pw_below_drewN HW.out _⟩, ⟨H0.out⟩, ⟨H1.out⟩⟩
      · have hn1 : (rd a x != rd b x) = true := by simpa using hne
        have hres : decide (a = b) = false := by
          rw [decide_eq_false_iff_not, hx.2.2, hd]
          exact fun h => hne h.1
        have Hr := Aside0.mk hres
        clear hx hw HX hd hne hres
        replace p1 := eq_true p1
        replace q1 := eq_true q1
        go_wp2
        go_quiet (fail)
        go_wp2
        go_ret
        exact ⟨by (rw [Hr.out]; first | done | rfl), pw_below_drewN HW.out _⟩
def laws_eqInt64A8.f (a0_0 : Int) (a0_1 : Int) (a0_2 : Int) (a0_3 : Int) (a0_4 : Int) (a0_5 : Int) (a0_6 : Int) (a0_7 : Int) (a1_0 : Int) (a1_1 : Int) (a1_2 : Int) (a1_3 : Int) (a1_4 : Int) (a1_5 : Int) (a1_6 : Int) (a1_7 : Int) : Option Bool := some (decide ([a0_0, a0_1, a0_2, a0_3, a0_4, a0_5, a0_6, a0_7] = [a1_0, a1_1, a1_2, a1_3, a1_4, a1_5, a1_6, a1_7]))
theorem laws_eqInt64A8.calls (a0_0 : Int) (a0_1 : Int) (a0_2 : Int) (a0_3 : Int) (a0_4 : Int) (a0_5 : Int) (a0_6 : Int) (a0_7 : Int) (a1_0 : Int) (a1_1 : Int) (a1_2 : Int) (a1_3 : Int) (a1_4 : Int) (a1_5 : Int) (a1_6 : Int) (a1_7 : Int) (r : Bool) (w : World) (h : laws_eqInt64A8.f a0_0 a0_1 a0_2 a0_3 a0_4 a0_5 a0_6 a0_7 a1_0 a1_1 a1_2 a1_3 a1_4 a1_5 a1_6 a1_7 = some r) :
    Calls Try.prog 16 #[.agg #[.int .i64 a0_0, .int .i64 a0_1, .int .i64 a0_2, .int .i64 a0_3, .int .i64 a0_4, .int .i64 a0_5, .int .i64 a0_6, .int .i64 a0_7], .agg #[.int .i64 a1_0, .int .i64 a1_1, .int .i64 a1_2, .int .i64 a1_3, .int .i64 a1_4, .int .i64 a1_5, .int .i64 a1_6, .int .i64 a1_7]] w fun e w' => e = .returned (.bool r) ∧ Below w.heap.size w w' := by
  obtain rfl := Option.some.inj h
  exact eqA8_list [a0_0, a0_1, a0_2, a0_3, a0_4, a0_5, a0_6, a0_7] [a1_0, a1_1, a1_2, a1_3, a1_4, a1_5, a1_6, a1_7] rfl rfl w
end Go.Proofs.Ytcapjgjjaolofaa.P
