/- A contract that the print does not take: one list of four numbers comes before another one. -/
import Derived.Test.YtmjfpigkobeahaaPx0
import Derived.IntWalk
import Derived.Laws.Rows
import Derived.Laws.Tables
namespace Go.Proofs.Ytmjfpigkobeahaa.P
open Go.RowKit Go.Proofs.YtmjfpigkobeahaaW.PrintWords Go.Proofs.YtmjfpigkobeahaaW.PrintLast Go.Proofs.YtmjfpigkobeahaaW.PrintMore
set_option linter.unusedVariables false
set_option linter.unusedSimpArgs false
/-- Numbers as cells. -/
def i64s (l : List Int) : Array Value := (l.map (Value.int .i64)).toArray
theorem i64s_get (l : List Int) (i : Nat) (h : i < l.length) : (i64s l)[i]? = some (.int .i64 (l.getD i 0)) := by
  simp [i64s, List.getElem?_eq_getElem h, List.getD]
theorem drop_rdB (l : List Int) (x : Int) (h0 : 0 ≤ x) (h1 : x < (l.length : Int)) : l.drop x.toNat = rd l x :: l.drop (x + 1).toNat := by
  have e : (x + 1).toNat = x.toNat + 1 := by omega
  rw [e, List.drop_eq_getElem_cons (show x.toNat < l.length by omega)]
  simp [rd, List.getD, List.getElem?_eq_getElem (show x.toNat < l.length by omega)]
theorem blk_i64 {w : World} {g : Nat} {t : TypeId} {l : List Int} (h : w.heap[g]? = some (.cells (i64s l) t (0, 0))) (x : Int) (h0 : 0 ≤ x) (h1 : x < l.length) : w.cell? ⟨g, x.toNat, none⟩ = some (.int .i64 (rd l x)) :=
  (blk_cell h x.toNat).trans (i64s_get l x.toNat (by omega))
/-- The first list comes before the second. -/
def befB : List Int → List Int → Bool
  | a :: xs, b :: ys => if a = b then befB xs ys else decide (a < b)
  | _, _ => false
theorem befB_drop (a b : List Int) (x : Int) (h0 : 0 ≤ x) (h1 : x < a.length) (h2 : a.length = b.length) : befB (a.drop x.toNat) (b.drop x.toNat) = if rd a x = rd b x then befB (a.drop (x + 1).toNat) (b.drop (x + 1).toNat) else decide (rd a x < rd b x) := by
  rw [drop_rdB a x h0 h1, drop_rdB b x h0 (by omega)]
  rfl
set_option maxHeartbeats 8000000 in
set_option maxRecDepth 100000 in
theorem l03Before_list (a b : List Int) (ha : a.length = 4) (hb : b.length = 4) (w : World) : Calls Try.prog 62 #[.agg (i64s a), .agg (i64s b)] w fun e w' => e = .returned (.bool (befB a b)) ∧ Below w.heap.size w w' := by
  have HA := Aside0.mk ha
  have HB := Aside0.mk hb
  clear ha hb
  go_enter Try.func62, Try.ntmps62
  go_wp2
  go_loopg [5] 4 (fun kq v5 w' => ∃ (x : Int), v5 = .int .i64 x ∧ Aside0 (0 ≤ x ∧ x + kq = 4 ∧ befB (a.drop x.toNat) (b.drop x.toNat) = befB a b) ∧ Aside0 (Below w.heap.size w w') ∧ Aside0 (w'.heap[w.heap.size]? = some (.cells (i64s a) 82 (0, 0))) ∧ Aside0 (w'.heap[w.heap.size + 1]? = some (.cells (i64s b) 82 (0, 0))))
  case atStart =>
    refine ⟨0, rfl, ⟨by omega, by omega, by simp⟩, ⟨below_alloc (below_alloc (Below.refl _ _) _) _⟩, ⟨blk_alloc (blk_new w _) _⟩, ⟨?_⟩⟩
    have := blk_new (w.alloc (.cells (i64s a) 82)) (.cells (i64s b) 82)
    simpa using this
  case round =>
    obtain ⟨x, rfl, HX, HW, H0, H1⟩ := hrel
    cases gk with
    | zero =>
      have hx := HX.out
      have hb : decide (x < 4) = false := decide_eq_false (by omega)
      have hres : befB a b = false := by
        rw [← hx.2.2, List.drop_eq_nil_of_le (by have := HA.out; omega)]
        rfl
      have Hr := Aside0.mk hres
      clear hx hres HX
      go_wp2
      go_ret
      exact ⟨by (rw [Hr.out]; first | done | rfl), HW.out⟩
    | succ k1 =>
      have hx := HX.out
      have p1 : 0 ≤ x := hx.1
      have q1 : x < 4 := by omega
      have hb : decide (x < 4) = true := decide_eq_true q1
      have hc0 := blk_i64 H0.out x p1 (by have := HA.out; omega)
      have hc1 := blk_i64 H1.out x p1 (by have := HB.out; omega)
      have hd := befB_drop a b x p1 (by have := HA.out; omega) (by have := HA.out; have := HB.out; omega)
      have hw : wrap64 (x + 1) = x + 1 := Go.IntWalk.wrap64_in _ (by omega)
      by_cases hne : rd a x = rd b x
      · have hn1 : (rd a x != rd b x) = false := by simpa using hne
        have HN := Aside0.mk (show 0 ≤ wrap64 (x + 1) ∧ wrap64 (x + 1) + k1 = 4 ∧ befB (a.drop (wrap64 (x + 1)).toNat) (b.drop (wrap64 (x + 1)).toNat) = befB a b by
          rw [hw]
          exact ⟨by omega, by omega, by rw [← hx.2.2, hd, if_pos hne]⟩)
        clear hx hw HX hd hne
        replace p1 := eq_true p1
        replace q1 := eq_true q1
        go_wp2
        go_quiet (fail)
        go_wp2
        go_roundg k1
        case measure => omega
        case rel =>
          exact ⟨wrap64 (x + 1), rfl, HN, ⟨pw_below_drewN HW.out _⟩, ⟨H0.out⟩, ⟨H1.out⟩⟩
      · have hn1 : (rd a x != rd b x) = true := by simpa using hne
        obtain ⟨r, hr⟩ : ∃ r, decide (rd a x < rd b x) = r := ⟨_, rfl⟩
        have Hr := Aside0.mk (show befB a b = r by rw [← hx.2.2, hd, if_neg hne]; exact hr)
        clear hx hw HX hd hne
        replace p1 := eq_true p1
        replace q1 := eq_true q1
        cases r
        all_goals
          go_wp2
          go_quiet (fail)
          go_wp2
          go_quiet (fail)
          go_wp2
          go_ret
          exact ⟨by (rw [Hr.out]; first | done | rfl), by repeat (first | exact HW.out | apply pw_below_drewN)⟩
def spec_l03Before.f (a0_0 : Int) (a0_1 : Int) (a0_2 : Int) (a0_3 : Int) (a1_0 : Int) (a1_1 : Int) (a1_2 : Int) (a1_3 : Int) : Option Bool := some (befB [a0_0, a0_1, a0_2, a0_3] [a1_0, a1_1, a1_2, a1_3])
theorem spec_l03Before.calls (a0_0 : Int) (a0_1 : Int) (a0_2 : Int) (a0_3 : Int) (a1_0 : Int) (a1_1 : Int) (a1_2 : Int) (a1_3 : Int) (r : Bool) (w : World) (h : spec_l03Before.f a0_0 a0_1 a0_2 a0_3 a1_0 a1_1 a1_2 a1_3 = some r) :
    Calls Try.prog 62 #[.agg #[.int .i64 a0_0, .int .i64 a0_1, .int .i64 a0_2, .int .i64 a0_3], .agg #[.int .i64 a1_0, .int .i64 a1_1, .int .i64 a1_2, .int .i64 a1_3]] w fun e w' => e = .returned (.bool r) ∧ Below w.heap.size w w' := by
  obtain rfl := Option.some.inj h
  exact l03Before_list [a0_0, a0_1, a0_2, a0_3] [a1_0, a1_1, a1_2, a1_3] rfl rfl w
end Go.Proofs.Ytmjfpigkobeahaa.P
