-- Written by wip/myprint.py out of the translation; Lean checks it.
import Derived.Test.YtmmplpflbflekaaPx0
import Derived.Test.YtmmplpflbflekaaPx16
import Derived.Test.YtmmplpflbflekaaGivF
namespace Go.Proofs.Ytmmplpflbflekaa.P
open Go.RowKit Go.Proofs.YtmmplpflbflekaaW.PrintWords Go.Proofs.YtmmplpflbflekaaW.PrintLast Go.Proofs.YtmmplpflbflekaaW.PrintMore
attribute [local go_sem] max2_int min2_int max_two min_two max_three min_three max_four min_four   -- for this text's walks alone
set_option linter.unusedVariables false
set_option linter.unusedSimpArgs false

/-! ### spec_CompareDigits: function 37 -/
def spec_CompareDigits.j0 : Nat → List Int → Bool → Int → Int → Int → Int → Int → Int → Int → Int → Int → Int → Int → Int → Int → Int → Int → Int → Option (Int × Int)
  | 0, _, _, _, _, _, _, _, _, _, _, _, _, _, _, _, _, _, _ => none
  | k + 1, x0, x19, x401000, x401001, x401002, x401003, x401004, x401005, x401006, x401007, x402000, x402001, x402002, x402003, x402004, x402005, x402006, x402007 => if x19 = true then (some (0, 1)) else ((spec_l01Value.f x0 x401000 x401001 x401002 x401003 x401004 x401005 x401006 x401007).bind fun t404 => ((spec_l01Value.f x0 x402000 x402001 x402002 x402003 x402004 x402005 x402006 x402007).bind fun t405 => (if t404 < t405 then (some ((-1), 0)) else (if t404 > t405 then (some (1, 0)) else (some (0, 0))))))
def spec_CompareDigits.f (k : Nat) (l0 : List Int) (a1_0 : Int) (a1_1 : Int) (a1_2 : Int) (a1_3 : Int) (a1_4 : Int) (a1_5 : Int) (a1_6 : Int) (a1_7 : Int) (a2_0 : Int) (a2_1 : Int) (a2_2 : Int) (a2_3 : Int) (a2_4 : Int) (a2_5 : Int) (a2_6 : Int) (a2_7 : Int) : Option (Int × Int) := (spec_ValidDigits.f k l0 a1_0 a1_1 a1_2 a1_3 a1_4 a1_5 a1_6 a1_7).bind fun t402 => (if t402 = true then ((spec_ValidDigits.f k l0 a2_0 a2_1 a2_2 a2_3 a2_4 a2_5 a2_6 a2_7).bind fun t403 => (spec_CompareDigits.j0 k l0 (!t403) a1_0 a1_1 a1_2 a1_3 a1_4 a1_5 a1_6 a1_7 a2_0 a2_1 a2_2 a2_3 a2_4 a2_5 a2_6 a2_7)) else (spec_CompareDigits.j0 k l0 true a1_0 a1_1 a1_2 a1_3 a1_4 a1_5 a1_6 a1_7 a2_0 a2_1 a2_2 a2_3 a2_4 a2_5 a2_6 a2_7))
theorem spec_CompareDigits.mono_l : ∀ k, (∀ y0 y1 y2 y3 y4 y5 y6 y7 y8 y9 y10 y11 y12 y13 y14 y15 y16 y17, LeO (spec_CompareDigits.j0 k y0 y1 y2 y3 y4 y5 y6 y7 y8 y9 y10 y11 y12 y13 y14 y15 y16 y17) (spec_CompareDigits.j0 (k + 1) y0 y1 y2 y3 y4 y5 y6 y7 y8 y9 y10 y11 y12 y13 y14 y15 y16 y17))
  | 0 => fun _ _ _ _ _ _ _ _ _ _ _ _ _ _ _ _ _ _ r h => by simp [spec_CompareDigits.j0] at h
  | k + 1 => by
    have ih0 := spec_CompareDigits.mono_l k
    · intro y0 y1 y2 y3 y4 y5 y6 y7 y8 y9 y10 y11 y12 y13 y14 y15 y16 y17
      unfold spec_CompareDigits.j0
      repeat' first
      | (with_reducible exact ih0 _ _ _ _ _ _ _ _ _ _ _ _ _ _ _ _ _ _)
      | (with_reducible exact spec_ValidDigits.mono _ _ _ _ _ _ _ _ _ _)
      | (with_reducible exact LeO.refl _)
      | (with_reducible exact LeO.none _)
      | (with_reducible refine LeO.ite ?_ ?_)
      | (with_reducible refine LeO.bind ?_ (fun _ => ?_))
      | exact ih0 _ _ _ _ _ _ _ _ _ _ _ _ _ _ _ _ _ _
      | exact spec_ValidDigits.mono _ _ _ _ _ _ _ _ _ _
      | exact LeO.none _
      | refine LeO.ite ?_ ?_
      | refine LeO.bind ?_ (fun _ => ?_)
theorem spec_CompareDigits.mono : ∀ a0 a1 a2 a3 a4 a5 a6 a7 a8 a9 a10 a11 a12 a13 a14 a15 a16 k, LeO (spec_CompareDigits.f k a0 a1 a2 a3 a4 a5 a6 a7 a8 a9 a10 a11 a12 a13 a14 a15 a16) (spec_CompareDigits.f (k + 1) a0 a1 a2 a3 a4 a5 a6 a7 a8 a9 a10 a11 a12 a13 a14 a15 a16) := by
  intro a0 a1 a2 a3 a4 a5 a6 a7 a8 a9 a10 a11 a12 a13 a14 a15 a16 k
  have ih0 := spec_CompareDigits.mono_l k
  unfold spec_CompareDigits.f
  repeat' first
      | (with_reducible exact ih0 _ _ _ _ _ _ _ _ _ _ _ _ _ _ _ _ _ _)
      | (with_reducible exact spec_ValidDigits.mono _ _ _ _ _ _ _ _ _ _)
      | (with_reducible exact LeO.refl _)
      | (with_reducible exact LeO.none _)
      | (with_reducible refine LeO.ite ?_ ?_)
      | (with_reducible refine LeO.bind ?_ (fun _ => ?_))
      | exact ih0 _ _ _ _ _ _ _ _ _ _ _ _ _ _ _ _ _ _
      | exact spec_ValidDigits.mono _ _ _ _ _ _ _ _ _ _
      | exact LeO.none _
      | refine LeO.ite ?_ ?_
      | refine LeO.bind ?_ (fun _ => ?_)
set_option maxHeartbeats 8000000 in
set_option maxRecDepth 100000 in
theorem spec_CompareDigits.calls (k : Nat) (A0 : Option Addr) (c0 : Nat) (l0 : List Int) (a1_0 : Int) (a1_1 : Int) (a1_2 : Int) (a1_3 : Int) (a1_4 : Int) (a1_5 : Int) (a1_6 : Int) (a1_7 : Int) (a2_0 : Int) (a2_1 : Int) (a2_2 : Int) (a2_3 : Int) (a2_4 : Int) (a2_5 : Int) (a2_6 : Int) (a2_7 : Int) (r1 : Int) (r2 : Int) (w : World) (hr0 : Kd.C (Kd.int .u8) w A0 l0.length l0) (hc0 : l0.length ≤ c0) (h : spec_CompareDigits.f k l0 a1_0 a1_1 a1_2 a1_3 a1_4 a1_5 a1_6 a1_7 a2_0 a2_1 a2_2 a2_3 a2_4 a2_5 a2_6 a2_7 = some (r1, r2)) :
    Calls Try.prog 37 #[.slice A0 l0.length c0, .agg #[.int .u8 a1_0, .int .u8 a1_1, .int .u8 a1_2, .int .u8 a1_3, .int .u8 a1_4, .int .u8 a1_5, .int .u8 a1_6, .int .u8 a1_7], .agg #[.int .u8 a2_0, .int .u8 a2_1, .int .u8 a2_2, .int .u8 a2_3, .int .u8 a2_4, .int .u8 a2_5, .int .u8 a2_6, .int .u8 a2_7]] w fun e w' => e = .returned (.tuple #[.int .i64 r1, .int .i64 r2]) ∧ Below w.heap.size w w' := by
  have hu35 := Try.underlying35
  have HR0 := Aside0.mk hr0
  have HC0 := Aside0.mk hc0
  clear hr0 hc0
  have HB := Aside0.mk (Below.refl w.heap.size w)
  have H : ((spec_ValidDigits.f k l0 a1_0 a1_1 a1_2 a1_3 a1_4 a1_5 a1_6 a1_7).bind fun t402 => (if t402 = true then ((spec_ValidDigits.f k l0 a2_0 a2_1 a2_2 a2_3 a2_4 a2_5 a2_6 a2_7).bind fun t403 => (spec_CompareDigits.j0 k l0 (!t403) a1_0 a1_1 a1_2 a1_3 a1_4 a1_5 a1_6 a1_7 a2_0 a2_1 a2_2 a2_3 a2_4 a2_5 a2_6 a2_7)) else (spec_CompareDigits.j0 k l0 true a1_0 a1_1 a1_2 a1_3 a1_4 a1_5 a1_6 a1_7 a2_0 a2_1 a2_2 a2_3 a2_4 a2_5 a2_6 a2_7))) = some (r1, r2) := h
  clear h
  have HC4 := Aside0.mk H
  clear H
  go_enter Try.func37, Try.ntmps37
  go_upto_region 1 with (first | ((with_reducible refine gate_dst (N := 4) rfl ?_); refine box_event ?hg (N := 4) ?hd (cs := #[.int .u8 a1_0, .int .u8 a1_1, .int .u8 a1_2, .int .u8 a1_3, .int .u8 a1_4, .int .u8 a1_5, .int .u8 a1_6, .int .u8 a1_7]) (t := 35) ?hr ?_; (case hd => rfl); (case hg => rfl); (case hr => first | (go_simp; done) | (go_simp; rfl)); intro gb400 hg w5 hbox hb; have n0_ := Aside0.mk (below_step (by repeat (first | (with_reducible first | exact HB.out | apply below_alloc | apply pw_below_drewN | apply below_drew1) | exact HB.out)) hb); have n1_ := Aside0.mk (hbox); have n2_ := Aside0.mk ((by rw [hg]; exact (below_size (by repeat (first | (with_reducible first | exact HB.out | apply below_alloc | apply pw_below_drewN | apply below_drew1) | exact HB.out))) : w.heap.size ≤ gb400)); have n3_ := Aside0.mk ((by rw [hg]; exact (below_size (by repeat (first | (with_reducible first | exact HB.out | apply below_alloc | apply pw_below_drewN | apply below_drew1) | exact HB.out))) : w.heap.size ≤ gb400)); clear HB; have HB := n0_; have BK400 := n1_; have GW400 := n2_; have GE400 := n3_; clear n0_ n1_ n2_ n3_; clear hb hbox hg) | ((with_reducible refine gate_dst (N := 5) rfl ?_); refine box_event ?hg (N := 5) ?hd (cs := #[.int .u8 a2_0, .int .u8 a2_1, .int .u8 a2_2, .int .u8 a2_3, .int .u8 a2_4, .int .u8 a2_5, .int .u8 a2_6, .int .u8 a2_7]) (t := 35) ?hr ?_; (case hd => rfl); (case hg => rfl); (case hr => first | (go_simp; done) | (go_simp; rfl)); intro gb401 hg w6 hbox hb; have n0_ := Aside0.mk (blk_below (g := gb400) (o := .cells #[.int .u8 a1_0, .int .u8 a1_1, .int .u8 a1_2, .int .u8 a1_3, .int .u8 a1_4, .int .u8 a1_5, .int .u8 a1_6, .int .u8 a1_7] 35 (0, 0)) (by (with_reducible repeat (first | refine blk_drewN ?_ _ | refine blk_drew ?_ | refine blk_alloc ?_ _)); exact BK400.out) hb); have n1_ := Aside0.mk (below_step (by repeat (first | (with_reducible first | exact HB.out | apply below_alloc | apply pw_below_drewN | apply below_drew1 | refine below_set ?_ GE400.out) | exact HB.out)) hb); have n2_ := Aside0.mk (hbox); have n3_ := Aside0.mk ((by rw [hg]; exact (below_size (by repeat (first | (with_reducible first | exact HB.out | apply below_alloc | apply pw_below_drewN | apply below_drew1 | refine below_set ?_ GE400.out) | exact HB.out))) : w.heap.size ≤ gb401)); have n4_ := Aside0.mk ((by rw [hg]; exact (below_size (by repeat (first | (with_reducible first | exact HB.out | apply below_alloc | apply pw_below_drewN | apply below_drew1 | refine below_set ?_ GE400.out) | exact HB.out))) : w.heap.size ≤ gb401)); have n5_ := Aside0.mk ((by rw [hg]; exact Nat.ne_of_lt (blk_lt (g := gb400) (o := .cells #[.int .u8 a1_0, .int .u8 a1_1, .int .u8 a1_2, .int .u8 a1_3, .int .u8 a1_4, .int .u8 a1_5, .int .u8 a1_6, .int .u8 a1_7] 35 (0, 0)) (by (with_reducible repeat (first | refine blk_drewN ?_ _ | refine blk_drew ?_ | refine blk_alloc ?_ _)); exact BK400.out)) : gb400 ≠ gb401)); have n6_ := Aside0.mk ((by rw [hg]; exact Nat.ne_of_gt (blk_lt (g := gb400) (o := .cells #[.int .u8 a1_0, .int .u8 a1_1, .int .u8 a1_2, .int .u8 a1_3, .int .u8 a1_4, .int .u8 a1_5, .int .u8 a1_6, .int .u8 a1_7] 35 (0, 0)) (by (with_reducible repeat (first | refine blk_drewN ?_ _ | refine blk_drew ?_ | refine blk_alloc ?_ _)); exact BK400.out)) : gb401 ≠ gb400)); clear BK400; clear HB; have BK400 := n0_; have HB := n1_; have BK401 := n2_; have GW401 := n3_; have GE401 := n4_; have NB400_401 := n5_; have NB401_400 := n6_; clear n0_ n1_ n2_ n3_ n4_ n5_ n6_; clear hb hbox hg))
  (try simp only [Act.put, List.setIfInBounds_toArray, List.set_cons_zero, List.set_cons_succ])
  go_cut [19] (fun v19 wc => ∃ (kq : Nat) (x19_3 : Bool), v19 = .bool x19_3 ∧ Aside0 (spec_CompareDigits.j0 kq l0 x19_3 a1_0 a1_1 a1_2 a1_3 a1_4 a1_5 a1_6 a1_7 a2_0 a2_1 a2_2 a2_3 a2_4 a2_5 a2_6 a2_7 = some (r1, r2)) ∧ Aside0 (kq ≤ k) ∧ Aside0 (wc.heap[gb400]? = some (.cells #[.int .u8 a1_0, .int .u8 a1_1, .int .u8 a1_2, .int .u8 a1_3, .int .u8 a1_4, .int .u8 a1_5, .int .u8 a1_6, .int .u8 a1_7] 35 (0, 0))) ∧ Aside0 (wc.heap[gb401]? = some (.cells #[.int .u8 a2_0, .int .u8 a2_1, .int .u8 a2_2, .int .u8 a2_3, .int .u8 a2_4, .int .u8 a2_5, .int .u8 a2_6, .int .u8 a2_7] 35 (0, 0))) ∧ Aside0 (Below w.heap.size w wc))
  case first =>
    have H := HC4.out
    clear HC4
    replace H := Option.bind_eq_some_iff.mp H
    obtain ⟨t402, A70, H⟩ := H
    replace H : (if t402 = true then ((spec_ValidDigits.f k l0 a2_0 a2_1 a2_2 a2_3 a2_4 a2_5 a2_6 a2_7).bind fun t403 => (spec_CompareDigits.j0 k l0 (!t403) a1_0 a1_1 a1_2 a1_3 a1_4 a1_5 a1_6 a1_7 a2_0 a2_1 a2_2 a2_3 a2_4 a2_5 a2_6 a2_7)) else (spec_CompareDigits.j0 k l0 true a1_0 a1_1 a1_2 a1_3 a1_4 a1_5 a1_6 a1_7 a2_0 a2_1 a2_2 a2_3 a2_4 a2_5 a2_6 a2_7)) = some (r1, r2) := H
    have A7 := Aside0.mk A70
    clear A70
    by_cases c8 : t402 = true
    · subst c8
      have H1 : ((spec_ValidDigits.f k l0 a2_0 a2_1 a2_2 a2_3 a2_4 a2_5 a2_6 a2_7).bind fun t403 => (spec_CompareDigits.j0 k l0 (!t403) a1_0 a1_1 a1_2 a1_3 a1_4 a1_5 a1_6 a1_7 a2_0 a2_1 a2_2 a2_3 a2_4 a2_5 a2_6 a2_7)) = some (r1, r2) := by rw [if_pos rfl] at H; exact H
      clear H
      have H := H1
      clear H1
      replace H := Option.bind_eq_some_iff.mp H
      obtain ⟨t403, A90, H⟩ := H
      replace H : (spec_CompareDigits.j0 k l0 (!t403) a1_0 a1_1 a1_2 a1_3 a1_4 a1_5 a1_6 a1_7 a2_0 a2_1 a2_2 a2_3 a2_4 a2_5 a2_6 a2_7) = some (r1, r2) := H
      have A9 := Aside0.mk A90
      clear A90
      have H' := Aside0.mk H
      clear H
      have hnb10 := NB400_401.out
      have hnc10 := NB401_400.out
      have hcz11_0 : w6.cell? ⟨gb400, 0, none⟩ = some (.int .u8 a1_0) := (blk_cell BK400.out 0).trans rfl
      have hcz11_1 : w6.cell? ⟨gb400, 1, none⟩ = some (.int .u8 a1_1) := (blk_cell BK400.out 1).trans rfl
      have hcz11_2 : w6.cell? ⟨gb400, 2, none⟩ = some (.int .u8 a1_2) := (blk_cell BK400.out 2).trans rfl
      have hcz11_3 : w6.cell? ⟨gb400, 3, none⟩ = some (.int .u8 a1_3) := (blk_cell BK400.out 3).trans rfl
      have hcz11_4 : w6.cell? ⟨gb400, 4, none⟩ = some (.int .u8 a1_4) := (blk_cell BK400.out 4).trans rfl
      have hcz11_5 : w6.cell? ⟨gb400, 5, none⟩ = some (.int .u8 a1_5) := (blk_cell BK400.out 5).trans rfl
      have hcz11_6 : w6.cell? ⟨gb400, 6, none⟩ = some (.int .u8 a1_6) := (blk_cell BK400.out 6).trans rfl
      have hcz11_7 : w6.cell? ⟨gb400, 7, none⟩ = some (.int .u8 a1_7) := (blk_cell BK400.out 7).trans rfl
      have hfz11_0 := blk_frozen BK400.out 0
      have hfz11_1 := blk_frozen BK400.out 1
      have hfz11_2 := blk_frozen BK400.out 2
      have hfz11_3 := blk_frozen BK400.out 3
      have hfz11_4 := blk_frozen BK400.out 4
      have hfz11_5 := blk_frozen BK400.out 5
      have hfz11_6 := blk_frozen BK400.out 6
      have hfz11_7 := blk_frozen BK400.out 7
      go_wp2_with (first | ((with_reducible refine gate_callee (f := 25) rfl ?_); refine goesL_ (some 12) rfl rfl Try.func25 (by kernel_rfl) rfl #[.slice A0 l0.length c0, .agg #[.int .u8 a1_0, .int .u8 a1_1, .int .u8 a1_2, .int .u8 a1_3, .int .u8 a1_4, .int .u8 a1_5, .int .u8 a1_6, .int .u8 a1_7]] rfl (by (try simp only [List.map_toArray, List.map_cons, List.map_nil]); first | done | rfl | (simp only [List.length_drop, List.length_take]; rfl)) ?_; (with_reducible refine (spec_ValidDigits.calls k _ _ l0 a1_0 a1_1 a1_2 a1_3 a1_4 a1_5 a1_6 a1_7 true _ ?side1 ?side2 A7.out).mono ?_); (case side1 => repeat (first | exact (Kd.C_below HR0.out HB.out) | (with_reducible refine Kd.C_alloc ?_ _) | (with_reducible refine Kd.C_drewN ?_ _) | (with_reducible refine Kd.C_drew ?_))); (case side2 => exact HC0.out); rintro e w12 ⟨rfl, hb⟩; refine ⟨_, rfl, ?_⟩; have n0_ := Aside0.mk (blk_below (g := gb400) (o := .cells #[.int .u8 a1_0, .int .u8 a1_1, .int .u8 a1_2, .int .u8 a1_3, .int .u8 a1_4, .int .u8 a1_5, .int .u8 a1_6, .int .u8 a1_7] 35 (0, 0)) (by (with_reducible repeat (first | refine blk_drewN ?_ _ | refine blk_drew ?_ | refine blk_alloc ?_ _)); exact BK400.out) hb); have n1_ := Aside0.mk (blk_below (g := gb401) (o := .cells #[.int .u8 a2_0, .int .u8 a2_1, .int .u8 a2_2, .int .u8 a2_3, .int .u8 a2_4, .int .u8 a2_5, .int .u8 a2_6, .int .u8 a2_7] 35 (0, 0)) (by (with_reducible repeat (first | refine blk_drewN ?_ _ | refine blk_drew ?_ | refine blk_alloc ?_ _)); exact BK401.out) hb); have n2_ := Aside0.mk (below_step (by repeat (first | (with_reducible first | exact HB.out | apply below_alloc | apply pw_below_drewN | apply below_drew1 | refine below_set ?_ GE400.out | refine below_set ?_ GE401.out) | exact HB.out)) hb); clear BK400; clear BK401; clear HB; have BK400 := n0_; have BK401 := n1_; have HB := n2_; clear n0_ n1_ n2_; (try clear hb); (try clear hb2); (try clear hk); (try clear hi); have hcz13_0 : w12.cell? ⟨gb401, 0, none⟩ = some (.int .u8 a2_0) := (blk_cell BK401.out 0).trans rfl; have hcz13_1 : w12.cell? ⟨gb401, 1, none⟩ = some (.int .u8 a2_1) := (blk_cell BK401.out 1).trans rfl; have hcz13_2 : w12.cell? ⟨gb401, 2, none⟩ = some (.int .u8 a2_2) := (blk_cell BK401.out 2).trans rfl; have hcz13_3 : w12.cell? ⟨gb401, 3, none⟩ = some (.int .u8 a2_3) := (blk_cell BK401.out 3).trans rfl; have hcz13_4 : w12.cell? ⟨gb401, 4, none⟩ = some (.int .u8 a2_4) := (blk_cell BK401.out 4).trans rfl; have hcz13_5 : w12.cell? ⟨gb401, 5, none⟩ = some (.int .u8 a2_5) := (blk_cell BK401.out 5).trans rfl; have hcz13_6 : w12.cell? ⟨gb401, 6, none⟩ = some (.int .u8 a2_6) := (blk_cell BK401.out 6).trans rfl; have hcz13_7 : w12.cell? ⟨gb401, 7, none⟩ = some (.int .u8 a2_7) := (blk_cell BK401.out 7).trans rfl; have hfz13_0 := blk_frozen BK401.out 0; have hfz13_1 := blk_frozen BK401.out 1; have hfz13_2 := blk_frozen BK401.out 2; have hfz13_3 := blk_frozen BK401.out 3; have hfz13_4 := blk_frozen BK401.out 4; have hfz13_5 := blk_frozen BK401.out 5; have hfz13_6 := blk_frozen BK401.out 6; have hfz13_7 := blk_frozen BK401.out 7) | (go_at_call 25; (with_reducible refine (spec_ValidDigits.calls k _ _ l0 a2_0 a2_1 a2_2 a2_3 a2_4 a2_5 a2_6 a2_7 t403 _ ?side1 ?side2 A9.out).mono ?_); (case side1 => repeat (first | exact (Kd.C_below HR0.out HB.out) | (with_reducible refine Kd.C_alloc ?_ _) | (with_reducible refine Kd.C_drewN ?_ _) | (with_reducible refine Kd.C_drew ?_))); (case side2 => exact HC0.out); rintro e w14 ⟨rfl, hb⟩; have n0_ := Aside0.mk (blk_below (g := gb400) (o := .cells #[.int .u8 a1_0, .int .u8 a1_1, .int .u8 a1_2, .int .u8 a1_3, .int .u8 a1_4, .int .u8 a1_5, .int .u8 a1_6, .int .u8 a1_7] 35 (0, 0)) (by (with_reducible repeat (first | refine blk_drewN ?_ _ | refine blk_drew ?_ | refine blk_alloc ?_ _)); exact BK400.out) hb); have n1_ := Aside0.mk (blk_below (g := gb401) (o := .cells #[.int .u8 a2_0, .int .u8 a2_1, .int .u8 a2_2, .int .u8 a2_3, .int .u8 a2_4, .int .u8 a2_5, .int .u8 a2_6, .int .u8 a2_7] 35 (0, 0)) (by (with_reducible repeat (first | refine blk_drewN ?_ _ | refine blk_drew ?_ | refine blk_alloc ?_ _)); exact BK401.out) hb); have n2_ := Aside0.mk (below_step (by repeat (first | (with_reducible first | exact HB.out | apply below_alloc | apply pw_below_drewN | apply below_drew1 | refine below_set ?_ GE400.out | refine below_set ?_ GE401.out) | exact HB.out)) hb); clear BK400; clear BK401; clear HB; have BK400 := n0_; have BK401 := n1_; have HB := n2_; clear n0_ n1_ n2_; (try clear hb); (try clear hb2); (try clear hk); (try clear hi)))
      go_meet
      case rel => exact ⟨_, (!t403), (by first | rfl | (simp; done) | (simp [*]; done)), H', ⟨by first | omega | exact Nat.le_refl _⟩, ⟨by (with_reducible repeat (first | refine blk_drewN ?_ _ | refine blk_drew ?_ | refine blk_alloc ?_ _)); exact BK400.out⟩, ⟨by (with_reducible repeat (first | refine blk_drewN ?_ _ | refine blk_drew ?_ | refine blk_alloc ?_ _)); exact BK401.out⟩, ⟨by repeat (first | (with_reducible first | exact HB.out | apply below_alloc | apply pw_below_drewN | apply below_drew1 | refine below_set ?_ GE400.out | refine below_set ?_ GE401.out) | exact HB.out)⟩⟩
    · replace c8 := Bool.eq_false_iff.mpr c8
      subst c8
      have H1 : (spec_CompareDigits.j0 k l0 true a1_0 a1_1 a1_2 a1_3 a1_4 a1_5 a1_6 a1_7 a2_0 a2_1 a2_2 a2_3 a2_4 a2_5 a2_6 a2_7) = some (r1, r2) := by rw [if_neg (show ¬ (false = true) by decide)] at H; exact H
      clear H
      have H := H1
      clear H1
      have H' := Aside0.mk H
      clear H
      have hnb15 := NB400_401.out
      have hnc15 := NB401_400.out
      have hcz16_0 : w6.cell? ⟨gb400, 0, none⟩ = some (.int .u8 a1_0) := (blk_cell BK400.out 0).trans rfl
      have hcz16_1 : w6.cell? ⟨gb400, 1, none⟩ = some (.int .u8 a1_1) := (blk_cell BK400.out 1).trans rfl
      have hcz16_2 : w6.cell? ⟨gb400, 2, none⟩ = some (.int .u8 a1_2) := (blk_cell BK400.out 2).trans rfl
      have hcz16_3 : w6.cell? ⟨gb400, 3, none⟩ = some (.int .u8 a1_3) := (blk_cell BK400.out 3).trans rfl
      have hcz16_4 : w6.cell? ⟨gb400, 4, none⟩ = some (.int .u8 a1_4) := (blk_cell BK400.out 4).trans rfl
      have hcz16_5 : w6.cell? ⟨gb400, 5, none⟩ = some (.int .u8 a1_5) := (blk_cell BK400.out 5).trans rfl
      have hcz16_6 : w6.cell? ⟨gb400, 6, none⟩ = some (.int .u8 a1_6) := (blk_cell BK400.out 6).trans rfl
      have hcz16_7 : w6.cell? ⟨gb400, 7, none⟩ = some (.int .u8 a1_7) := (blk_cell BK400.out 7).trans rfl
      have hfz16_0 := blk_frozen BK400.out 0
      have hfz16_1 := blk_frozen BK400.out 1
      have hfz16_2 := blk_frozen BK400.out 2
      have hfz16_3 := blk_frozen BK400.out 3
      have hfz16_4 := blk_frozen BK400.out 4
      have hfz16_5 := blk_frozen BK400.out 5
      have hfz16_6 := blk_frozen BK400.out 6
      have hfz16_7 := blk_frozen BK400.out 7
      go_wp2_with (first | ((with_reducible refine gate_callee (f := 25) rfl ?_); refine goesL_ (some 12) rfl rfl Try.func25 (by kernel_rfl) rfl #[.slice A0 l0.length c0, .agg #[.int .u8 a1_0, .int .u8 a1_1, .int .u8 a1_2, .int .u8 a1_3, .int .u8 a1_4, .int .u8 a1_5, .int .u8 a1_6, .int .u8 a1_7]] rfl (by (try simp only [List.map_toArray, List.map_cons, List.map_nil]); first | done | rfl | (simp only [List.length_drop, List.length_take]; rfl)) ?_; (with_reducible refine (spec_ValidDigits.calls k _ _ l0 a1_0 a1_1 a1_2 a1_3 a1_4 a1_5 a1_6 a1_7 false _ ?side1 ?side2 A7.out).mono ?_); (case side1 => repeat (first | exact (Kd.C_below HR0.out HB.out) | (with_reducible refine Kd.C_alloc ?_ _) | (with_reducible refine Kd.C_drewN ?_ _) | (with_reducible refine Kd.C_drew ?_))); (case side2 => exact HC0.out); rintro e w17 ⟨rfl, hb⟩; refine ⟨_, rfl, ?_⟩; have n0_ := Aside0.mk (blk_below (g := gb400) (o := .cells #[.int .u8 a1_0, .int .u8 a1_1, .int .u8 a1_2, .int .u8 a1_3, .int .u8 a1_4, .int .u8 a1_5, .int .u8 a1_6, .int .u8 a1_7] 35 (0, 0)) (by (with_reducible repeat (first | refine blk_drewN ?_ _ | refine blk_drew ?_ | refine blk_alloc ?_ _)); exact BK400.out) hb); have n1_ := Aside0.mk (blk_below (g := gb401) (o := .cells #[.int .u8 a2_0, .int .u8 a2_1, .int .u8 a2_2, .int .u8 a2_3, .int .u8 a2_4, .int .u8 a2_5, .int .u8 a2_6, .int .u8 a2_7] 35 (0, 0)) (by (with_reducible repeat (first | refine blk_drewN ?_ _ | refine blk_drew ?_ | refine blk_alloc ?_ _)); exact BK401.out) hb); have n2_ := Aside0.mk (below_step (by repeat (first | (with_reducible first | exact HB.out | apply below_alloc | apply pw_below_drewN | apply below_drew1 | refine below_set ?_ GE400.out | refine below_set ?_ GE401.out) | exact HB.out)) hb); clear BK400; clear BK401; clear HB; have BK400 := n0_; have BK401 := n1_; have HB := n2_; clear n0_ n1_ n2_; (try clear hb); (try clear hb2); (try clear hk); (try clear hi)))
      go_meet
      case rel => exact ⟨_, (true), (by first | rfl | (simp; done) | (simp [*]; done)), H', ⟨by first | omega | exact Nat.le_refl _⟩, ⟨by (with_reducible repeat (first | refine blk_drewN ?_ _ | refine blk_drew ?_ | refine blk_alloc ?_ _)); exact BK400.out⟩, ⟨by (with_reducible repeat (first | refine blk_drewN ?_ _ | refine blk_drew ?_ | refine blk_alloc ?_ _)); exact BK401.out⟩, ⟨by repeat (first | (with_reducible first | exact HB.out | apply below_alloc | apply pw_below_drewN | apply below_drew1 | refine below_set ?_ GE400.out | refine below_set ?_ GE401.out) | exact HB.out)⟩⟩
  case rest =>
    clear HC4
    try clear c1
    try clear c2
    try clear p2
    try clear c3
    try clear c8
    try clear c10
    try clear c15
    try clear hcz11_0
    try clear hcz11_1
    try clear hcz11_2
    try clear hcz11_3
    try clear hcz11_4
    try clear hcz11_5
    try clear hcz11_6
    try clear hcz11_7
    try clear hcz13_0
    try clear hcz13_1
    try clear hcz13_2
    try clear hcz13_3
    try clear hcz13_4
    try clear hcz13_5
    try clear hcz13_6
    try clear hcz13_7
    try clear hcz16_0
    try clear hcz16_1
    try clear hcz16_2
    try clear hcz16_3
    try clear hcz16_4
    try clear hcz16_5
    try clear hcz16_6
    try clear hcz16_7
    try clear hfz11_0
    try clear hfz11_1
    try clear hfz11_2
    try clear hfz11_3
    try clear hfz11_4
    try clear hfz11_5
    try clear hfz11_6
    try clear hfz11_7
    try clear hfz13_0
    try clear hfz13_1
    try clear hfz13_2
    try clear hfz13_3
    try clear hfz13_4
    try clear hfz13_5
    try clear hfz13_6
    try clear hfz13_7
    try clear hfz16_0
    try clear hfz16_1
    try clear hfz16_2
    try clear hfz16_3
    try clear hfz16_4
    try clear hfz16_5
    try clear hfz16_6
    try clear hfz16_7
    obtain ⟨kq, x19_3, rfl, HA, HJ3, BK400, BK401, HB⟩ := hcut
    cases kq with
    | zero => exact absurd HA.out (by simp [spec_CompareDigits.j0])
    | succ kj3 =>
      have H := HA.out
      clear HA
      simp only [spec_CompareDigits.j0] at H
      by_cases c18 : x19_3 = true
      · subst c18
        have H1 : (some (0, 1)) = some (r1, r2) := by rw [if_pos rfl] at H; exact H
        clear H
        have H := H1
        clear H1
        simp only [Option.some.injEq, Prod.mk.injEq] at H
        obtain ⟨rfl, rfl⟩ := H
        go_wp2
        go_ret2
        exact ⟨by first | rfl | (simp [errW_none, errW_some] <;> rfl) | (simp [*, errW_none, errW_some] <;> rfl), by repeat (first | (with_reducible first | exact HB.out | apply below_alloc | apply pw_below_drewN | apply below_drew1 | refine below_set ?_ GE400.out | refine below_set ?_ GE401.out) | exact HB.out)⟩
      · replace c18 := Bool.eq_false_iff.mpr c18
        subst c18
        have H1 : ((spec_l01Value.f l0 a1_0 a1_1 a1_2 a1_3 a1_4 a1_5 a1_6 a1_7).bind fun t404 => ((spec_l01Value.f l0 a2_0 a2_1 a2_2 a2_3 a2_4 a2_5 a2_6 a2_7).bind fun t405 => (if t404 < t405 then (some ((-1), 0)) else (if t404 > t405 then (some (1, 0)) else (some (0, 0)))))) = some (r1, r2) := by rw [if_neg (show ¬ (false = true) by decide)] at H; exact H
        clear H
        have H := H1
        clear H1
        replace H := Option.bind_eq_some_iff.mp H
        obtain ⟨t404, A190, H⟩ := H
        replace H : ((spec_l01Value.f l0 a2_0 a2_1 a2_2 a2_3 a2_4 a2_5 a2_6 a2_7).bind fun t405 => (if t404 < t405 then (some ((-1), 0)) else (if t404 > t405 then (some (1, 0)) else (some (0, 0))))) = some (r1, r2) := H
        have A19 := Aside0.mk A190
        clear A190
        replace H := Option.bind_eq_some_iff.mp H
        obtain ⟨t405, A200, H⟩ := H
        replace H : (if t404 < t405 then (some ((-1), 0)) else (if t404 > t405 then (some (1, 0)) else (some (0, 0)))) = some (r1, r2) := H
        have A20 := Aside0.mk A200
        clear A200
        by_cases c21 : t404 < t405
        · rw [if_pos c21] at H
          have c21b0 : decide (t404 < t405) = true := decide_eq_true c21
          clear c21
          simp only [Option.some.injEq, Prod.mk.injEq] at H
          obtain ⟨rfl, rfl⟩ := H
          have hnb22 := NB400_401.out
          have hnc22 := NB401_400.out
          have hcz23_0 : wc.cell? ⟨gb400, 0, none⟩ = some (.int .u8 a1_0) := (blk_cell BK400.out 0).trans rfl
          have hcz23_1 : wc.cell? ⟨gb400, 1, none⟩ = some (.int .u8 a1_1) := (blk_cell BK400.out 1).trans rfl
          have hcz23_2 : wc.cell? ⟨gb400, 2, none⟩ = some (.int .u8 a1_2) := (blk_cell BK400.out 2).trans rfl
          have hcz23_3 : wc.cell? ⟨gb400, 3, none⟩ = some (.int .u8 a1_3) := (blk_cell BK400.out 3).trans rfl
          have hcz23_4 : wc.cell? ⟨gb400, 4, none⟩ = some (.int .u8 a1_4) := (blk_cell BK400.out 4).trans rfl
          have hcz23_5 : wc.cell? ⟨gb400, 5, none⟩ = some (.int .u8 a1_5) := (blk_cell BK400.out 5).trans rfl
          have hcz23_6 : wc.cell? ⟨gb400, 6, none⟩ = some (.int .u8 a1_6) := (blk_cell BK400.out 6).trans rfl
          have hcz23_7 : wc.cell? ⟨gb400, 7, none⟩ = some (.int .u8 a1_7) := (blk_cell BK400.out 7).trans rfl
          have hfz23_0 := blk_frozen BK400.out 0
          have hfz23_1 := blk_frozen BK400.out 1
          have hfz23_2 := blk_frozen BK400.out 2
          have hfz23_3 := blk_frozen BK400.out 3
          have hfz23_4 := blk_frozen BK400.out 4
          have hfz23_5 := blk_frozen BK400.out 5
          have hfz23_6 := blk_frozen BK400.out 6
          have hfz23_7 := blk_frozen BK400.out 7
          go_wp2_with (first | ((with_reducible refine gate_callee (f := 62) rfl ?_); refine goesL_ (some 22) rfl rfl Try.func62 (by kernel_rfl) rfl #[.slice A0 l0.length c0, .agg #[.int .u8 a1_0, .int .u8 a1_1, .int .u8 a1_2, .int .u8 a1_3, .int .u8 a1_4, .int .u8 a1_5, .int .u8 a1_6, .int .u8 a1_7]] rfl (by (try simp only [List.map_toArray, List.map_cons, List.map_nil]); first | done | rfl | (simp only [List.length_drop, List.length_take]; rfl)) ?_; (with_reducible refine (spec_l01Value.calls _ _ l0 a1_0 a1_1 a1_2 a1_3 a1_4 a1_5 a1_6 a1_7 t404 _ ?side1 ?side2 A19.out).mono ?_); (case side1 => repeat (first | exact (Kd.C_below HR0.out HB.out) | (with_reducible refine Kd.C_alloc ?_ _) | (with_reducible refine Kd.C_drewN ?_ _) | (with_reducible refine Kd.C_drew ?_))); (case side2 => exact HC0.out); rintro e w24 ⟨rfl, hb⟩; refine ⟨_, rfl, ?_⟩; have n0_ := Aside0.mk (blk_below (g := gb400) (o := .cells #[.int .u8 a1_0, .int .u8 a1_1, .int .u8 a1_2, .int .u8 a1_3, .int .u8 a1_4, .int .u8 a1_5, .int .u8 a1_6, .int .u8 a1_7] 35 (0, 0)) (by (with_reducible repeat (first | refine blk_drewN ?_ _ | refine blk_drew ?_ | refine blk_alloc ?_ _)); exact BK400.out) hb); have n1_ := Aside0.mk (blk_below (g := gb401) (o := .cells #[.int .u8 a2_0, .int .u8 a2_1, .int .u8 a2_2, .int .u8 a2_3, .int .u8 a2_4, .int .u8 a2_5, .int .u8 a2_6, .int .u8 a2_7] 35 (0, 0)) (by (with_reducible repeat (first | refine blk_drewN ?_ _ | refine blk_drew ?_ | refine blk_alloc ?_ _)); exact BK401.out) hb); have n2_ := Aside0.mk (below_step (by repeat (first | (with_reducible first | exact HB.out | apply below_alloc | apply pw_below_drewN | apply below_drew1 | refine below_set ?_ GE400.out | refine below_set ?_ GE401.out) | exact HB.out)) hb); clear BK400; clear BK401; clear HB; have BK400 := n0_; have BK401 := n1_; have HB := n2_; clear n0_ n1_ n2_; (try clear hb); (try clear hb2); (try clear hk); (try clear hi); have hcz25_0 : w24.cell? ⟨gb401, 0, none⟩ = some (.int .u8 a2_0) := (blk_cell BK401.out 0).trans rfl; have hcz25_1 : w24.cell? ⟨gb401, 1, none⟩ = some (.int .u8 a2_1) := (blk_cell BK401.out 1).trans rfl; have hcz25_2 : w24.cell? ⟨gb401, 2, none⟩ = some (.int .u8 a2_2) := (blk_cell BK401.out 2).trans rfl; have hcz25_3 : w24.cell? ⟨gb401, 3, none⟩ = some (.int .u8 a2_3) := (blk_cell BK401.out 3).trans rfl; have hcz25_4 : w24.cell? ⟨gb401, 4, none⟩ = some (.int .u8 a2_4) := (blk_cell BK401.out 4).trans rfl; have hcz25_5 : w24.cell? ⟨gb401, 5, none⟩ = some (.int .u8 a2_5) := (blk_cell BK401.out 5).trans rfl; have hcz25_6 : w24.cell? ⟨gb401, 6, none⟩ = some (.int .u8 a2_6) := (blk_cell BK401.out 6).trans rfl; have hcz25_7 : w24.cell? ⟨gb401, 7, none⟩ = some (.int .u8 a2_7) := (blk_cell BK401.out 7).trans rfl; have hfz25_0 := blk_frozen BK401.out 0; have hfz25_1 := blk_frozen BK401.out 1; have hfz25_2 := blk_frozen BK401.out 2; have hfz25_3 := blk_frozen BK401.out 3; have hfz25_4 := blk_frozen BK401.out 4; have hfz25_5 := blk_frozen BK401.out 5; have hfz25_6 := blk_frozen BK401.out 6; have hfz25_7 := blk_frozen BK401.out 7) | ((with_reducible refine gate_callee (f := 62) rfl ?_); refine goesL_ (some 25) rfl rfl Try.func62 (by kernel_rfl) rfl #[.slice A0 l0.length c0, .agg #[.int .u8 a2_0, .int .u8 a2_1, .int .u8 a2_2, .int .u8 a2_3, .int .u8 a2_4, .int .u8 a2_5, .int .u8 a2_6, .int .u8 a2_7]] rfl (by (try simp only [List.map_toArray, List.map_cons, List.map_nil]); first | done | rfl | (simp only [List.length_drop, List.length_take]; rfl)) ?_; (with_reducible refine (spec_l01Value.calls _ _ l0 a2_0 a2_1 a2_2 a2_3 a2_4 a2_5 a2_6 a2_7 t405 _ ?side1 ?side2 A20.out).mono ?_); (case side1 => repeat (first | exact (Kd.C_below HR0.out HB.out) | (with_reducible refine Kd.C_alloc ?_ _) | (with_reducible refine Kd.C_drewN ?_ _) | (with_reducible refine Kd.C_drew ?_))); (case side2 => exact HC0.out); rintro e w26 ⟨rfl, hb⟩; refine ⟨_, rfl, ?_⟩; have n0_ := Aside0.mk (blk_below (g := gb400) (o := .cells #[.int .u8 a1_0, .int .u8 a1_1, .int .u8 a1_2, .int .u8 a1_3, .int .u8 a1_4, .int .u8 a1_5, .int .u8 a1_6, .int .u8 a1_7] 35 (0, 0)) (by (with_reducible repeat (first | refine blk_drewN ?_ _ | refine blk_drew ?_ | refine blk_alloc ?_ _)); exact BK400.out) hb); have n1_ := Aside0.mk (blk_below (g := gb401) (o := .cells #[.int .u8 a2_0, .int .u8 a2_1, .int .u8 a2_2, .int .u8 a2_3, .int .u8 a2_4, .int .u8 a2_5, .int .u8 a2_6, .int .u8 a2_7] 35 (0, 0)) (by (with_reducible repeat (first | refine blk_drewN ?_ _ | refine blk_drew ?_ | refine blk_alloc ?_ _)); exact BK401.out) hb); have n2_ := Aside0.mk (below_step (by repeat (first | (with_reducible first | exact HB.out | apply below_alloc | apply pw_below_drewN | apply below_drew1 | refine below_set ?_ GE400.out | refine below_set ?_ GE401.out) | exact HB.out)) hb); clear BK400; clear BK401; clear HB; have BK400 := n0_; have BK401 := n1_; have HB := n2_; clear n0_ n1_ n2_; (try clear hb); (try clear hb2); (try clear hk); (try clear hi)))
          go_ret2
          exact ⟨by first | rfl | (simp [errW_none, errW_some] <;> rfl) | (simp [*, errW_none, errW_some] <;> rfl), by repeat (first | (with_reducible first | exact HB.out | apply below_alloc | apply pw_below_drewN | apply below_drew1 | refine below_set ?_ GE400.out | refine below_set ?_ GE401.out) | exact HB.out)⟩
        · rw [if_neg c21] at H
          have c21b0 : decide (t404 < t405) = false := decide_eq_false c21
          clear c21
          by_cases c27 : t404 > t405
          · rw [if_pos c27] at H
            have c27b0 : decide (t405 < t404) = true := decide_eq_true c27
            clear c27
            simp only [Option.some.injEq, Prod.mk.injEq] at H
            obtain ⟨rfl, rfl⟩ := H
            have hnb28 := NB400_401.out
            have hnc28 := NB401_400.out
            have hcz29_0 : wc.cell? ⟨gb400, 0, none⟩ = some (.int .u8 a1_0) := (blk_cell BK400.out 0).trans rfl
            have hcz29_1 : wc.cell? ⟨gb400, 1, none⟩ = some (.int .u8 a1_1) := (blk_cell BK400.out 1).trans rfl
            have hcz29_2 : wc.cell? ⟨gb400, 2, none⟩ = some (.int .u8 a1_2) := (blk_cell BK400.out 2).trans rfl
            have hcz29_3 : wc.cell? ⟨gb400, 3, none⟩ = some (.int .u8 a1_3) := (blk_cell BK400.out 3).trans rfl
            have hcz29_4 : wc.cell? ⟨gb400, 4, none⟩ = some (.int .u8 a1_4) := (blk_cell BK400.out 4).trans rfl
            have hcz29_5 : wc.cell? ⟨gb400, 5, none⟩ = some (.int .u8 a1_5) := (blk_cell BK400.out 5).trans rfl
            have hcz29_6 : wc.cell? ⟨gb400, 6, none⟩ = some (.int .u8 a1_6) := (blk_cell BK400.out 6).trans rfl
            have hcz29_7 : wc.cell? ⟨gb400, 7, none⟩ = some (.int .u8 a1_7) := (blk_cell BK400.out 7).trans rfl
            have hfz29_0 := blk_frozen BK400.out 0
            have hfz29_1 := blk_frozen BK400.out 1
            have hfz29_2 := blk_frozen BK400.out 2
            have hfz29_3 := blk_frozen BK400.out 3
            have hfz29_4 := blk_frozen BK400.out 4
            have hfz29_5 := blk_frozen BK400.out 5
            have hfz29_6 := blk_frozen BK400.out 6
            have hfz29_7 := blk_frozen BK400.out 7
            go_wp2_with (first | ((with_reducible refine gate_callee (f := 62) rfl ?_); refine goesL_ (some 22) rfl rfl Try.func62 (by kernel_rfl) rfl #[.slice A0 l0.length c0, .agg #[.int .u8 a1_0, .int .u8 a1_1, .int .u8 a1_2, .int .u8 a1_3, .int .u8 a1_4, .int .u8 a1_5, .int .u8 a1_6, .int .u8 a1_7]] rfl (by (try simp only [List.map_toArray, List.map_cons, List.map_nil]); first | done | rfl | (simp only [List.length_drop, List.length_take]; rfl)) ?_; (with_reducible refine (spec_l01Value.calls _ _ l0 a1_0 a1_1 a1_2 a1_3 a1_4 a1_5 a1_6 a1_7 t404 _ ?side1 ?side2 A19.out).mono ?_); (case side1 => repeat (first | exact (Kd.C_below HR0.out HB.out) | (with_reducible refine Kd.C_alloc ?_ _) | (with_reducible refine Kd.C_drewN ?_ _) | (with_reducible refine Kd.C_drew ?_))); (case side2 => exact HC0.out); rintro e w30 ⟨rfl, hb⟩; refine ⟨_, rfl, ?_⟩; have n0_ := Aside0.mk (blk_below (g := gb400) (o := .cells #[.int .u8 a1_0, .int .u8 a1_1, .int .u8 a1_2, .int .u8 a1_3, .int .u8 a1_4, .int .u8 a1_5, .int .u8 a1_6, .int .u8 a1_7] 35 (0, 0)) (by (with_reducible repeat (first | refine blk_drewN ?_ _ | refine blk_drew ?_ | refine blk_alloc ?_ _)); exact BK400.out) hb); have n1_ := Aside0.mk (blk_below (g := gb401) (o := .cells #[.int .u8 a2_0, .int .u8 a2_1, .int .u8 a2_2, .int .u8 a2_3, .int .u8 a2_4, .int .u8 a2_5, .int .u8 a2_6, .int .u8 a2_7] 35 (0, 0)) (by (with_reducible repeat (first | refine blk_drewN ?_ _ | refine blk_drew ?_ | refine blk_alloc ?_ _)); exact BK401.out) hb); have n2_ := Aside0.mk (below_step (by repeat (first | (with_reducible first | exact HB.out | apply below_alloc | apply pw_below_drewN | apply below_drew1 | refine below_set ?_ GE400.out | refine below_set ?_ GE401.out) | exact HB.out)) hb); clear BK400; clear BK401; clear HB; have BK400 := n0_; have BK401 := n1_; have HB := n2_; clear n0_ n1_ n2_; (try clear hb); (try clear hb2); (try clear hk); (try clear hi); have hcz31_0 : w30.cell? ⟨gb401, 0, none⟩ = some (.int .u8 a2_0) := (blk_cell BK401.out 0).trans rfl; have hcz31_1 : w30.cell? ⟨gb401, 1, none⟩ = some (.int .u8 a2_1) := (blk_cell BK401.out 1).trans rfl; have hcz31_2 : w30.cell? ⟨gb401, 2, none⟩ = some (.int .u8 a2_2) := (blk_cell BK401.out 2).trans rfl; have hcz31_3 : w30.cell? ⟨gb401, 3, none⟩ = some (.int .u8 a2_3) := (blk_cell BK401.out 3).trans rfl; have hcz31_4 : w30.cell? ⟨gb401, 4, none⟩ = some (.int .u8 a2_4) := (blk_cell BK401.out 4).trans rfl; have hcz31_5 : w30.cell? ⟨gb401, 5, none⟩ = some (.int .u8 a2_5) := (blk_cell BK401.out 5).trans rfl; have hcz31_6 : w30.cell? ⟨gb401, 6, none⟩ = some (.int .u8 a2_6) := (blk_cell BK401.out 6).trans rfl; have hcz31_7 : w30.cell? ⟨gb401, 7, none⟩ = some (.int .u8 a2_7) := (blk_cell BK401.out 7).trans rfl; have hfz31_0 := blk_frozen BK401.out 0; have hfz31_1 := blk_frozen BK401.out 1; have hfz31_2 := blk_frozen BK401.out 2; have hfz31_3 := blk_frozen BK401.out 3; have hfz31_4 := blk_frozen BK401.out 4; have hfz31_5 := blk_frozen BK401.out 5; have hfz31_6 := blk_frozen BK401.out 6; have hfz31_7 := blk_frozen BK401.out 7) | ((with_reducible refine gate_callee (f := 62) rfl ?_); refine goesL_ (some 25) rfl rfl Try.func62 (by kernel_rfl) rfl #[.slice A0 l0.length c0, .agg #[.int .u8 a2_0, .int .u8 a2_1, .int .u8 a2_2, .int .u8 a2_3, .int .u8 a2_4, .int .u8 a2_5, .int .u8 a2_6, .int .u8 a2_7]] rfl (by (try simp only [List.map_toArray, List.map_cons, List.map_nil]); first | done | rfl | (simp only [List.length_drop, List.length_take]; rfl)) ?_; (with_reducible refine (spec_l01Value.calls _ _ l0 a2_0 a2_1 a2_2 a2_3 a2_4 a2_5 a2_6 a2_7 t405 _ ?side1 ?side2 A20.out).mono ?_); (case side1 => repeat (first | exact (Kd.C_below HR0.out HB.out) | (with_reducible refine Kd.C_alloc ?_ _) | (with_reducible refine Kd.C_drewN ?_ _) | (with_reducible refine Kd.C_drew ?_))); (case side2 => exact HC0.out); rintro e w32 ⟨rfl, hb⟩; refine ⟨_, rfl, ?_⟩; have n0_ := Aside0.mk (blk_below (g := gb400) (o := .cells #[.int .u8 a1_0, .int .u8 a1_1, .int .u8 a1_2, .int .u8 a1_3, .int .u8 a1_4, .int .u8 a1_5, .int .u8 a1_6, .int .u8 a1_7] 35 (0, 0)) (by (with_reducible repeat (first | refine blk_drewN ?_ _ | refine blk_drew ?_ | refine blk_alloc ?_ _)); exact BK400.out) hb); have n1_ := Aside0.mk (blk_below (g := gb401) (o := .cells #[.int .u8 a2_0, .int .u8 a2_1, .int .u8 a2_2, .int .u8 a2_3, .int .u8 a2_4, .int .u8 a2_5, .int .u8 a2_6, .int .u8 a2_7] 35 (0, 0)) (by (with_reducible repeat (first | refine blk_drewN ?_ _ | refine blk_drew ?_ | refine blk_alloc ?_ _)); exact BK401.out) hb); have n2_ := Aside0.mk (below_step (by repeat (first | (with_reducible first | exact HB.out | apply below_alloc | apply pw_below_drewN | apply below_drew1 | refine below_set ?_ GE400.out | refine below_set ?_ GE401.out) | exact HB.out)) hb); clear BK400; clear BK401; clear HB; have BK400 := n0_; have BK401 := n1_; have HB := n2_; clear n0_ n1_ n2_; (try clear hb); (try clear hb2); (try clear hk); (try clear hi)))
            go_ret2
            exact ⟨by first | rfl | (simp [errW_none, errW_some] <;> rfl) | (simp [*, errW_none, errW_some] <;> rfl), by repeat (first | (with_reducible first | exact HB.out | apply below_alloc | apply pw_below_drewN | apply below_drew1 | refine below_set ?_ GE400.out | refine below_set ?_ GE401.out) | exact HB.out)⟩
          · rw [if_neg c27] at H
            have c27b0 : decide (t405 < t404) = false := decide_eq_false c27
            clear c27
            simp only [Option.some.injEq, Prod.mk.injEq] at H
            obtain ⟨rfl, rfl⟩ := H
            have hnb33 := NB400_401.out
            have hnc33 := NB401_400.out
            have hcz34_0 : wc.cell? ⟨gb400, 0, none⟩ = some (.int .u8 a1_0) := (blk_cell BK400.out 0).trans rfl
            have hcz34_1 : wc.cell? ⟨gb400, 1, none⟩ = some (.int .u8 a1_1) := (blk_cell BK400.out 1).trans rfl
            have hcz34_2 : wc.cell? ⟨gb400, 2, none⟩ = some (.int .u8 a1_2) := (blk_cell BK400.out 2).trans rfl
            have hcz34_3 : wc.cell? ⟨gb400, 3, none⟩ = some (.int .u8 a1_3) := (blk_cell BK400.out 3).trans rfl
            have hcz34_4 : wc.cell? ⟨gb400, 4, none⟩ = some (.int .u8 a1_4) := (blk_cell BK400.out 4).trans rfl
            have hcz34_5 : wc.cell? ⟨gb400, 5, none⟩ = some (.int .u8 a1_5) := (blk_cell BK400.out 5).trans rfl
            have hcz34_6 : wc.cell? ⟨gb400, 6, none⟩ = some (.int .u8 a1_6) := (blk_cell BK400.out 6).trans rfl
            have hcz34_7 : wc.cell? ⟨gb400, 7, none⟩ = some (.int .u8 a1_7) := (blk_cell BK400.out 7).trans rfl
            have hfz34_0 := blk_frozen BK400.out 0
            have hfz34_1 := blk_frozen BK400.out 1
            have hfz34_2 := blk_frozen BK400.out 2
            have hfz34_3 := blk_frozen BK400.out 3
            have hfz34_4 := blk_frozen BK400.out 4
            have hfz34_5 := blk_frozen BK400.out 5
            have hfz34_6 := blk_frozen BK400.out 6
            have hfz34_7 := blk_frozen BK400.out 7
            go_wp2_with (first | ((with_reducible refine gate_callee (f := 62) rfl ?_); refine goesL_ (some 22) rfl rfl Try.func62 (by kernel_rfl) rfl #[.slice A0 l0.length c0, .agg #[.int .u8 a1_0, .int .u8 a1_1, .int .u8 a1_2, .int .u8 a1_3, .int .u8 a1_4, .int .u8 a1_5, .int .u8 a1_6, .int .u8 a1_7]] rfl (by (try simp only [List.map_toArray, List.map_cons, List.map_nil]); first | done | rfl | (simp only [List.length_drop, List.length_take]; rfl)) ?_; (with_reducible refine (spec_l01Value.calls _ _ l0 a1_0 a1_1 a1_2 a1_3 a1_4 a1_5 a1_6 a1_7 t404 _ ?side1 ?side2 A19.out).mono ?_); (case side1 => repeat (first | exact (Kd.C_below HR0.out HB.out) | (with_reducible refine Kd.C_alloc ?_ _) | (with_reducible refine Kd.C_drewN ?_ _) | (with_reducible refine Kd.C_drew ?_))); (case side2 => exact HC0.out); rintro e w35 ⟨rfl, hb⟩; refine ⟨_, rfl, ?_⟩; have n0_ := Aside0.mk (blk_below (g := gb400) (o := .cells #[.int .u8 a1_0, .int .u8 a1_1, .int .u8 a1_2, .int .u8 a1_3, .int .u8 a1_4, .int .u8 a1_5, .int .u8 a1_6, .int .u8 a1_7] 35 (0, 0)) (by (with_reducible repeat (first | refine blk_drewN ?_ _ | refine blk_drew ?_ | refine blk_alloc ?_ _)); exact BK400.out) hb); have n1_ := Aside0.mk (blk_below (g := gb401) (o := .cells #[.int .u8 a2_0, .int .u8 a2_1, .int .u8 a2_2, .int .u8 a2_3, .int .u8 a2_4, .int .u8 a2_5, .int .u8 a2_6, .int .u8 a2_7] 35 (0, 0)) (by (with_reducible repeat (first | refine blk_drewN ?_ _ | refine blk_drew ?_ | refine blk_alloc ?_ _)); exact BK401.out) hb); have n2_ := Aside0.mk (below_step (by repeat (first | (with_reducible first | exact HB.out | apply below_alloc | apply pw_below_drewN | apply below_drew1 | refine below_set ?_ GE400.out | refine below_set ?_ GE401.out) | exact HB.out)) hb); clear BK400; clear BK401; clear HB; have BK400 := n0_; have BK401 := n1_; have HB := n2_; clear n0_ n1_ n2_; (try clear hb); (try clear hb2); (try clear hk); (try clear hi); have hcz36_0 : w35.cell? ⟨gb401, 0, none⟩ = some (.int .u8 a2_0) := (blk_cell BK401.out 0).trans rfl; have hcz36_1 : w35.cell? ⟨gb401, 1, none⟩ = some (.int .u8 a2_1) := (blk_cell BK401.out 1).trans rfl; have hcz36_2 : w35.cell? ⟨gb401, 2, none⟩ = some (.int .u8 a2_2) := (blk_cell BK401.out 2).trans rfl; have hcz36_3 : w35.cell? ⟨gb401, 3, none⟩ = some (.int .u8 a2_3) := (blk_cell BK401.out 3).trans rfl; have hcz36_4 : w35.cell? ⟨gb401, 4, none⟩ = some (.int .u8 a2_4) := (blk_cell BK401.out 4).trans rfl; have hcz36_5 : w35.cell? ⟨gb401, 5, none⟩ = some (.int .u8 a2_5) := (blk_cell BK401.out 5).trans rfl; have hcz36_6 : w35.cell? ⟨gb401, 6, none⟩ = some (.int .u8 a2_6) := (blk_cell BK401.out 6).trans rfl; have hcz36_7 : w35.cell? ⟨gb401, 7, none⟩ = some (.int .u8 a2_7) := (blk_cell BK401.out 7).trans rfl; have hfz36_0 := blk_frozen BK401.out 0; have hfz36_1 := blk_frozen BK401.out 1; have hfz36_2 := blk_frozen BK401.out 2; have hfz36_3 := blk_frozen BK401.out 3; have hfz36_4 := blk_frozen BK401.out 4; have hfz36_5 := blk_frozen BK401.out 5; have hfz36_6 := blk_frozen BK401.out 6; have hfz36_7 := blk_frozen BK401.out 7) | ((with_reducible refine gate_callee (f := 62) rfl ?_); refine goesL_ (some 25) rfl rfl Try.func62 (by kernel_rfl) rfl #[.slice A0 l0.length c0, .agg #[.int .u8 a2_0, .int .u8 a2_1, .int .u8 a2_2, .int .u8 a2_3, .int .u8 a2_4, .int .u8 a2_5, .int .u8 a2_6, .int .u8 a2_7]] rfl (by (try simp only [List.map_toArray, List.map_cons, List.map_nil]); first | done | rfl | (simp only [List.length_drop, List.length_take]; rfl)) ?_; (with_reducible refine (spec_l01Value.calls _ _ l0 a2_0 a2_1 a2_2 a2_3 a2_4 a2_5 a2_6 a2_7 t405 _ ?side1 ?side2 A20.out).mono ?_); (case side1 => repeat (first | exact (Kd.C_below HR0.out HB.out) | (with_reducible refine Kd.C_alloc ?_ _) | (with_reducible refine Kd.C_drewN ?_ _) | (with_reducible refine Kd.C_drew ?_))); (case side2 => exact HC0.out); rintro e w37 ⟨rfl, hb⟩; refine ⟨_, rfl, ?_⟩; have n0_ := Aside0.mk (blk_below (g := gb400) (o := .cells #[.int .u8 a1_0, .int .u8 a1_1, .int .u8 a1_2, .int .u8 a1_3, .int .u8 a1_4, .int .u8 a1_5, .int .u8 a1_6, .int .u8 a1_7] 35 (0, 0)) (by (with_reducible repeat (first | refine blk_drewN ?_ _ | refine blk_drew ?_ | refine blk_alloc ?_ _)); exact BK400.out) hb); have n1_ := Aside0.mk (blk_below (g := gb401) (o := .cells #[.int .u8 a2_0, .int .u8 a2_1, .int .u8 a2_2, .int .u8 a2_3, .int .u8 a2_4, .int .u8 a2_5, .int .u8 a2_6, .int .u8 a2_7] 35 (0, 0)) (by (with_reducible repeat (first | refine blk_drewN ?_ _ | refine blk_drew ?_ | refine blk_alloc ?_ _)); exact BK401.out) hb); have n2_ := Aside0.mk (below_step (by repeat (first | (with_reducible first | exact HB.out | apply below_alloc | apply pw_below_drewN | apply below_drew1 | refine below_set ?_ GE400.out | refine below_set ?_ GE401.out) | exact HB.out)) hb); clear BK400; clear BK401; clear HB; have BK400 := n0_; have BK401 := n1_; have HB := n2_; clear n0_ n1_ n2_; (try clear hb); (try clear hb2); (try clear hk); (try clear hi)))
            go_ret2
            exact ⟨by first | rfl | (simp [errW_none, errW_some] <;> rfl) | (simp [*, errW_none, errW_some] <;> rfl), by repeat (first | (with_reducible first | exact HB.out | apply below_alloc | apply pw_below_drewN | apply below_drew1 | refine below_set ?_ GE400.out | refine below_set ?_ GE401.out) | exact HB.out)⟩

end Go.Proofs.Ytmmplpflbflekaa.P
