/- Contracts of functions that the print does not take: digits that are compared, digits that are valid. -/
import Derived.Test.YtmmplpflbflekaaGivB
namespace Go.Proofs.Ytmmplpflbflekaa.P
open Go.RowKit Go.Proofs.YtmmplpflbflekaaW.PrintWords Go.Proofs.YtmmplpflbflekaaW.PrintLast Go.Proofs.YtmmplpflbflekaaW.PrintMore
set_option linter.unusedVariables false
set_option linter.unusedSimpArgs false
theorem rd_drop_eq (a b : List Int) (x : Int) (h0 : 0 ≤ x) (h1 : x < a.length) (h2 : a.length = b.length) : (a.drop x.toNat = b.drop x.toNat) ↔ (rd a x = rd b x ∧ a.drop (x + 1).toNat = b.drop (x + 1).toNat) := by
  rw [drop_rd a x h0 h1, drop_rd b x h0 (by omega), List.cons.injEq]
set_option maxHeartbeats 8000000 in
set_option maxRecDepth 100000 in
theorem eqDigits_list (a b : List Int) (ha : a.length = 8) (hb : b.length = 8) (w : World) : Calls Try.prog 32 #[.agg (u8s a), .agg (u8s b)] w fun e w' => e = .returned (.bool (decide (a = b))) ∧ Below w.heap.size w w' := by
  have HA := Aside0.mk ha
  have HB := Aside0.mk hb
  clear ha hb
  go_enter Try.func32, Try.ntmps32
  go_wp2
  go_loopg [5] 8 (fun kq v5 w' => ∃ (x : Int), v5 = .int .i64 x ∧ Aside0 (0 ≤ x ∧ x + kq = 8 ∧ (a = b ↔ a.drop x.toNat = b.drop x.toNat)) ∧ Aside0 (Below w.heap.size w w') ∧ Aside0 (w'.heap[w.heap.size]? = some (.cells (u8s a) 35 (0, 0))) ∧ Aside0 (w'.heap[w.heap.size + 1]? = some (.cells (u8s b) 35 (0, 0))))
  case atStart =>
    refine ⟨0, rfl, ⟨by omega, by omega, by simp⟩, ⟨below_alloc (below_alloc (Below.refl _ _) _) _⟩, ⟨blk_alloc (blk_new w _) _⟩, ⟨?_⟩⟩
    have := blk_new (w.alloc (.cells (u8s a) 35)) (.cells (u8s b) 35)
    simpa using this
  case round =>
    obtain ⟨x, rfl, HX, HW, H0, H1⟩ := hrel
    cases gk with
    | zero =>
      have hx := HX.out
      have hb : decide (x < 8) = false := decide_eq_false (by omega)
      have hres : decide (a = b) = true := by
        rw [decide_eq_true_eq, hx.2.2, List.drop_eq_nil_of_le (by have := HA.out; omega), List.drop_eq_nil_of_le (by have := HB.out; omega)]
      have Hr := Aside0.mk hres
      clear hx hres HX
      go_wp2
      go_ret
      exact ⟨by (rw [Hr.out]; first | done | rfl), HW.out⟩
    | succ k1 =>
      have hx := HX.out
      have p1 : 0 ≤ x := hx.1
      have q1 : x < 8 := by omega
      have hb : decide (x < 8) = true := decide_eq_true q1
      have hc0 := blk_u8 H0.out x p1 (by have := HA.out; omega)
      have hc1 := blk_u8 H1.out x p1 (by have := HB.out; omega)
      have hd := rd_drop_eq a b x p1 (by have := HA.out; omega) (by have := HA.out; have := HB.out; omega)
      have hw : wrap64 (x + 1) = x + 1 := Go.IntWalk.wrap64_in _ (by omega)
      by_cases hne : rd a x = rd b x
      · have hn1 : (rd a x != rd b x) = false := by simpa using hne
        have HN := Aside0.mk (show 0 ≤ wrap64 (x + 1) ∧ wrap64 (x + 1) + k1 = 8 ∧ (a = b ↔ a.drop (wrap64 (x + 1)).toNat = b.drop (wrap64 (x + 1)).toNat) by
          rw [hw]
          exact ⟨by omega, by omega, by rw [hx.2.2, hd]; exact ⟨fun h => h.2, fun h => ⟨hne, h⟩⟩⟩)
        clear hx hw HX hd hne
        replace p1 := eq_true p1
        replace q1 := eq_true q1
        go_wp2
        go_quiet (fail)
        go_wp2
        go_roundg k1
        case measure => omega
        case rel =>
          exact ⟨wrap64 (x + 1), rfl, HN, ⟨pw_below_drewN HW.out _⟩, ⟨H0.out⟩, ⟨H1.out⟩⟩
      · have hn1 : (rd a x != rd b x) = true := by simpa using hne
        have hres : decide (a = b) = false := by
          rw [decide_eq_false_iff_not, hx.2.2, hd]
          exact fun h => hne h.1
        have Hr := Aside0.mk hres
        clear hx hw HX hd hne hres
        replace p1 := eq_true p1
        replace q1 := eq_true q1
        go_wp2
        go_quiet (fail)
        go_wp2
        go_ret
        exact ⟨by (rw [Hr.out]; first | done | rfl), pw_below_drewN HW.out _⟩
end Go.Proofs.Ytmmplpflbflekaa.P
