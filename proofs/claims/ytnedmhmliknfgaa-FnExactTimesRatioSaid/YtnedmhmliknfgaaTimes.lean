/- A contract that the print does not take: the reference's product of ratios. -/
import Derived.Test.YtnedmhmliknfgaaPx1
import Derived.Deep.RegionHeld3
namespace Go.Proofs.Ytnedmhmliknfgaa.P
open Go.RowKit Go.Proofs.YtnedmhmliknfgaaW.PrintWords Go.Proofs.YtnedmhmliknfgaaW.PrintLast Go.Proofs.YtnedmhmliknfgaaW.PrintMore
set_option linter.unusedVariables false
set_option linter.unusedSimpArgs false
def spec_l03Times.f (k : Nat) (a0_0 : Int) (a0_1 : Int) (a1_0 : Int) (a1_1 : Int) : Option (Int × Int × Int) :=
  (spec_l03Gcd.f k a0_0 a1_1).bind fun g => ((spec_l03Gcd.f k a1_0 a0_1).bind fun h => (if g = 0 then none else (if h = 0 then none else
    (spec_l03Made.f k (wrap64 ((wrap64 (Int.tdiv a0_0 g)) * (wrap64 (Int.tdiv a1_0 h)))) (wrap64 ((wrap64 (Int.tdiv a0_1 h)) * (wrap64 (Int.tdiv a1_1 g))))))))
theorem spec_l03Times.mono : ∀ a0 a1 a2 a3 k, LeO (spec_l03Times.f k a0 a1 a2 a3) (spec_l03Times.f (k + 1) a0 a1 a2 a3) := by
  intro a0 a1 a2 a3 k
  unfold spec_l03Times.f
  repeat' first
      | (with_reducible exact spec_l03Gcd.mono _ _ _)
      | (with_reducible exact spec_l03Made.mono _ _ _)
      | (with_reducible exact LeO.none _)
      | (with_reducible refine LeO.ite ?_ ?_)
      | (with_reducible refine LeO.bind ?_ (fun _ => ?_))
set_option maxHeartbeats 8000000 in
set_option maxRecDepth 100000 in
theorem spec_l03Times.calls (k : Nat) (a0_0 : Int) (a0_1 : Int) (a1_0 : Int) (a1_1 : Int) (r1 : Int) (r2 : Int) (r3 : Int) (w : World) (h : spec_l03Times.f k a0_0 a0_1 a1_0 a1_1 = some (r1, r2, r3)) :
    Calls Try.prog 55 #[.agg #[.int .i64 a0_0, .int .i64 a0_1], .agg #[.int .i64 a1_0, .int .i64 a1_1]] w fun e w' => e = .returned (.tuple #[.agg #[.int .i64 r1, .int .i64 r2], .int .i64 r3]) ∧ Below w.heap.size w w' := by
  unfold spec_l03Times.f at h
  replace h := Option.bind_eq_some_iff.mp h
  obtain ⟨g, h1, h⟩ := h
  replace h := Option.bind_eq_some_iff.mp h
  obtain ⟨g', h2, h⟩ := h
  by_cases c1 : g = 0
  · rw [if_pos c1] at h
    cases h
  · by_cases c2 : g' = 0
    · rw [if_neg c1, if_pos c2] at h
      cases h
    · rw [if_neg c1, if_neg c2] at h
      have H1 := Aside0.mk h1
      have H2 := Aside0.mk h2
      have H := Aside0.mk h
      have b1 : (g == 0) = false := beq_eq_false_iff_ne.mpr c1
      have b2 : (g' == 0) = false := beq_eq_false_iff_ne.mpr c2
      have b3 : (g != 0) = true := bne_iff_ne.mpr c1
      have b4 : (g' != 0) = true := bne_iff_ne.mpr c2
      clear h1 h2 h
      go_enter Try.func55, Try.ntmps55
      go_wp2_with fail
      refine (spec_l03Gcd.calls k _ _ _ _ H1.out).mono ?_
      rintro e w' ⟨rfl, ⟨nd, rfl⟩⟩
      go_wp2_with fail
      refine (spec_l03Gcd.calls k _ _ _ _ H2.out).mono ?_
      rintro e w' ⟨rfl, ⟨nd2, rfl⟩⟩
      go_wp2_with fail
      have n1 : (w.alloc (Obj.cells #[Value.int IntKind.i64 a0_0, Value.int IntKind.i64 a0_1] 39)).heap.size = w.heap.size + 1 := by simp only [World.alloc, Array.size_push]
      have n2 : ((w.alloc (Obj.cells #[Value.int IntKind.i64 a0_0, Value.int IntKind.i64 a0_1] 39)).alloc (Obj.cells #[Value.int IntKind.i64 a1_0, Value.int IntKind.i64 a1_1] 39)).heap.size = w.heap.size + 1 + 1 := by simp only [World.alloc, Array.size_push]
      have m1 := blk_drewN (blk_alloc (blk_alloc (blk_new w (Obj.cells #[Value.int IntKind.i64 a0_0, Value.int IntKind.i64 a0_1] 39)) (Obj.cells #[Value.int IntKind.i64 a1_0, Value.int IntKind.i64 a1_1] 39)) (Obj.cells #[Value.int IntKind.i64 0, Value.int IntKind.i64 0] 39)) (nd + nd2)
      have m2 := blk_drewN (blk_alloc (blk_new (w.alloc (Obj.cells #[Value.int IntKind.i64 a0_0, Value.int IntKind.i64 a0_1] 39)) (Obj.cells #[Value.int IntKind.i64 a1_0, Value.int IntKind.i64 a1_1] 39)) (Obj.cells #[Value.int IntKind.i64 0, Value.int IntKind.i64 0] 39)) (nd + nd2)
      have m3 := blk_drewN (blk_new ((w.alloc (Obj.cells #[Value.int IntKind.i64 a0_0, Value.int IntKind.i64 a0_1] 39)).alloc (Obj.cells #[Value.int IntKind.i64 a1_0, Value.int IntKind.i64 a1_1] 39)) (Obj.cells #[Value.int IntKind.i64 0, Value.int IntKind.i64 0] 39)) (nd + nd2)
      rw [n1] at m2
      rw [n2] at m3
      have hb0 : Below w.heap.size w ((((w.alloc (Obj.cells #[Value.int IntKind.i64 a0_0, Value.int IntKind.i64 a0_1] 39)).alloc (Obj.cells #[Value.int IntKind.i64 a1_0, Value.int IntKind.i64 a1_1] 39)).alloc (Obj.cells #[Value.int IntKind.i64 0, Value.int IntKind.i64 0] 39)).drewN (nd + nd2)) := by repeat (first | exact Below.refl _ _ | apply below_alloc | apply pw_below_drewN)
      clear n1 n2
      generalize hW : ((((w.alloc (Obj.cells #[Value.int IntKind.i64 a0_0, Value.int IntKind.i64 a0_1] 39)).alloc (Obj.cells #[Value.int IntKind.i64 a1_0, Value.int IntKind.i64 a1_1] 39)).alloc (Obj.cells #[Value.int IntKind.i64 0, Value.int IntKind.i64 0] 39)).drewN (nd + nd2)) = W0 at m1 m2 m3 hb0 ⊢
      clear hW
      have c1 : W0.cell? ⟨w.heap.size, 0, none⟩ = some (.int .i64 a0_0) := (blk_cell m1 0).trans rfl
      have c2 : W0.cell? ⟨w.heap.size, 1, none⟩ = some (.int .i64 a0_1) := (blk_cell m1 1).trans rfl
      have c3 : W0.cell? ⟨w.heap.size + 1, 0, none⟩ = some (.int .i64 a1_0) := (blk_cell m2 0).trans rfl
      have c4 : W0.cell? ⟨w.heap.size + 1, 1, none⟩ = some (.int .i64 a1_1) := (blk_cell m2 1).trans rfl
      have key : ∀ w1, Below W0.drew.heap.size W0.drew w1 → w1.cell? ⟨w.heap.size, 0, none⟩ = some (.int .i64 a0_0) ∧ w1.cell? ⟨w.heap.size, 1, none⟩ = some (.int .i64 a0_1) ∧ w1.cell? ⟨w.heap.size + 1, 0, none⟩ = some (.int .i64 a1_0) ∧ w1.cell? ⟨w.heap.size + 1, 1, none⟩ = some (.int .i64 a1_1) ∧ w1.cell? ⟨w.heap.size + 1 + 1, 0, none⟩ = some (.int .i64 0) ∧ w1.cell? ⟨w.heap.size + 1 + 1, 1, none⟩ = some (.int .i64 0) ∧ w1.frozen? ⟨w.heap.size + 1 + 1, 0, none⟩ = false ∧ w1.frozen? ⟨w.heap.size + 1 + 1, 1, none⟩ = false ∧ w1.heap[w.heap.size + 1 + 1]? = some (Obj.cells #[Value.int IntKind.i64 0, Value.int IntKind.i64 0] 39) ∧ Below w.heap.size w w1 := by
        intro w1 hbel
        have d3 := (blk_below (blk_drew m3) hbel)
        exact ⟨pw_cell_below hbel c1, pw_cell_below hbel c2, pw_cell_below hbel c3, pw_cell_below hbel c4, (blk_cell d3 0).trans rfl, (blk_cell d3 1).trans rfl, blk_frozen d3 0, blk_frozen d3 1, d3, below_step hb0.drew hbel⟩
      have ne1 : ¬ (w.heap.size = w.heap.size + 1 + 1) := by omega
      have ne2 : ¬ (w.heap.size + 1 + 1 = w.heap.size) := by omega
      go_region_held3 (fun w' => w'.cell? ⟨w.heap.size, 0, none⟩ = some (.int .i64 a0_0) ∧ w'.cell? ⟨w.heap.size, 1, none⟩ = some (.int .i64 a0_1) ∧ w'.cell? ⟨w.heap.size + 1, 0, none⟩ = some (.int .i64 a1_0) ∧ w'.cell? ⟨w.heap.size + 1, 1, none⟩ = some (.int .i64 a1_1)) (go_keep)
        (first | (go_at_call 52; simp only [i64_w]; with_reducible refine (spec_l03Made.calls k _ _ _ _ _ _ H.out).mono ?_; rintro e w1 ⟨rfl, hbel⟩; dsimp only; obtain ⟨q0, q1, q2, q3, q4, q5, q6, q7, d3, hb1⟩ := key w1 hbel; clear hbel))
      go_wp2
      refine bodyPost_ret (results_ct rfl _ _ (w.heap.size + 1 + 1) 39 #[.int .i64 r1, .int .i64 r2] (0, 0) _ rfl (blk_put (cs := #[.int .i64 r1, .int .i64 0]) (blk_put (cs := #[.int .i64 0, .int .i64 0]) d3 0 _ rfl) 1 _ rfl) Try.underlying39 rfl (by kernel_rfl)) rfl ?_
      exact ⟨rfl, by repeat (first | exact hb1 | refine below_set ?_ (by omega) | apply pw_below_drewN)⟩
end Go.Proofs.Ytnedmhmliknfgaa.P
