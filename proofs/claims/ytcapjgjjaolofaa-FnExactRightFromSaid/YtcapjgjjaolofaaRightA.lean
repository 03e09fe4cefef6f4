/- Contracts of functions that the print does not take: how far a wheel is beyond its digit, both texts. -/
import Derived.Test.YtcapjgjjaolofaaPartsB
namespace Go.Proofs.Ytcapjgjjaolofaa.P
open Go.RowKit Go.Proofs.YtcapjgjjaolofaaW.PrintWords Go.Proofs.YtcapjgjjaolofaaW.PrintLast Go.Proofs.YtcapjgjjaolofaaW.PrintMore
set_option linter.unusedVariables false
set_option linter.unusedSimpArgs false
/-- Where a late joint begins to move. -/
def lateZ (b f : Int) : Int := wrap64 (wrap64 (wrap64 (wrap64 b - 1) * 1000) + wrap64 f)
/-- How far a wheel is beyond its digit. -/
def beyZ (b a f q : Int) : Int := if a = 0 then wrap64 (q.tdiv (wrap64 b)) else if q < lateZ b f then 0 else wrap64 ((wrap64 (wrap64 (q - lateZ b f) * 1000)).tdiv (wrap64 (1000 - wrap64 f)))
set_option maxHeartbeats 8000000 in
set_option maxRecDepth 100000 in
theorem beyS_calls (g : Nat) (A0 : Option Addr) (c0 : Nat) (l : List Int) (A1 : Option Addr) (c1 : Nat) (js : List S88) (x q y b a f : Int) (hw : wrap64 (x - 1) = y) (p1 : 0 ≤ y) (h2 : y < (l.length : Int)) (h3 : y < (js.length : Int)) (hbb : rd l y = b) (ha : (rd_T88 js y).f0 = a) (hff : (rd_T88 js y).f1 = f) (hb : ¬ wrap64 b = 0) (hf : ¬ wrap64 (1000 - wrap64 f) = 0) (W : World) (hg : MotP W g A0 c0 l A1 c1 js) (hr0 : Kd.C (Kd.int .u8) W A0 l.length l) (hr1 : Kd.C k88 W A1 js.length js) :
    Calls Try.prog 84 #[.pointer (some ⟨g, 0, none⟩), .int .i64 x, .int .i64 q] W fun e w' => e = .returned (.int .i64 (beyZ b a f q)) ∧ Below W.heap.size W w' := by
  have hcA : W.cell? ⟨g, 0, none⟩ = some (.slice A0 l.length c0) := (blk_cell hg 0).trans rfl
  have hcB : W.cell? ⟨g, 1, none⟩ = some (.slice A1 js.length c1) := (blk_cell hg 1).trans rfl
  obtain ⟨ad, e, hcs⟩ := Kd.at_int hr0 y p1 h2
  cases e
  obtain ⟨ae, e, hcell0, hcell1⟩ := at_T88 hr1 y p1 h3
  cases e
  have hcA2 : (W.alloc (.cells #[.int .i8 a, .int .i16 f] 88)).cell? ⟨g, 0, none⟩ = some (.slice (some ad) l.length c0) := (blk_cell (blk_alloc hg _) 0).trans rfl
  obtain ⟨ad2, e, hcs2⟩ := Kd.at_int (Kd.C_alloc hr0 (.cells #[.int .i8 a, .int .i16 f] 88)) y p1 h2
  cases e
  rw [hbb] at hcs2
  have hcA3 : (W.alloc (.cells #[.int .i8 0, .int .i16 0] 88)).cell? ⟨g, 0, none⟩ = some (.slice (some ad) l.length c0) := (blk_cell (blk_alloc hg _) 0).trans rfl
  have hcB3 : (W.alloc (.cells #[.int .i8 0, .int .i16 0] 88)).cell? ⟨g, 1, none⟩ = some (.slice (some ae) js.length c1) := (blk_cell (blk_alloc hg _) 1).trans rfl
  obtain ⟨ad3, e, hcs3⟩ := Kd.at_int (Kd.C_alloc hr0 (.cells #[.int .i8 0, .int .i16 0] 88)) y p1 h2
  cases e
  rw [hbb] at hcs3
  rw [hbb] at hcs
  obtain ⟨ae3, e, hcell03, hcell13⟩ := at_T88 (Kd.C_alloc hr1 (.cells #[.int .i8 0, .int .i16 0] 88)) y p1 h3
  cases e
  rw [ha] at hcell03
  rw [hff] at hcell13
  have hw2 : IntKind.i64.wrap (x - 1) = y := by rw [i64_w]; exact hw
  rw [ha] at hcell0
  rw [hff] at hcell1
  have hb1 : (wrap64 b == 0) = false := beq_eq_false_iff_ne.mpr hb
  have hf1 : (wrap64 (1000 - wrap64 f) == 0) = false := beq_eq_false_iff_ne.mpr hf
  have hb2 : (wrap64 b != 0) = true := bne_iff_ne.mpr hb
  have hf2 : (wrap64 (1000 - wrap64 f) != 0) = true := bne_iff_ne.mpr hf
  clear hg hr0 hr1 hbb ha hff
  replace p1 := eq_true p1
  replace h2 := eq_true h2
  replace h3 := eq_true h3
  by_cases h0 : a = 0
  · have he1 : (a == 0) = true := by simpa using h0
    have HE := Aside0.mk (show beyZ b a f q = wrap64 (q.tdiv (wrap64 b)) by rw [beyZ, if_pos h0])
    clear h0
    go_enter Try.func84, Try.ntmps84
    go_wp2
    go_ret
    exact ⟨by (rw [HE.out]; first | done | rfl), by repeat (first | exact Below.refl _ _ | apply pw_below_drewN | apply below_drew1 | apply below_alloc | refine below_set ?_ (Nat.le_refl _))⟩
  · have he1 : (a == 0) = false := by simpa using h0
    by_cases hq : q < lateZ b f
    · have he2 : decide (q < wrap64 (wrap64 (wrap64 (wrap64 b - 1) * 1000) + wrap64 f)) = true := decide_eq_true hq
      have HE := Aside0.mk (show beyZ b a f q = 0 by rw [beyZ, if_neg h0, if_pos hq])
      clear h0 hq
      go_enter Try.func84, Try.ntmps84
      go_wp2
      go_ret
      exact ⟨by (rw [HE.out]; first | done | rfl), by repeat (first | exact Below.refl _ _ | apply pw_below_drewN | apply below_drew1 | apply below_alloc | refine below_set ?_ (Nat.le_refl _))⟩
    · have he2 : decide (q < wrap64 (wrap64 (wrap64 (wrap64 b - 1) * 1000) + wrap64 f)) = false := decide_eq_false hq
      have HE := Aside0.mk (show beyZ b a f q = wrap64 ((wrap64 (wrap64 (q - wrap64 (wrap64 (wrap64 (wrap64 b - 1) * 1000) + wrap64 f)) * 1000)).tdiv (wrap64 (1000 - wrap64 f))) by rw [beyZ, if_neg h0, if_neg hq]; rfl)
      clear h0 hq
      go_enter Try.func84, Try.ntmps84
      go_wp2
      go_ret
      exact ⟨by (rw [HE.out]; first | done | rfl), by repeat (first | exact Below.refl _ _ | apply pw_below_drewN | apply below_drew1 | apply below_alloc | refine below_set ?_ (Nat.le_refl _))⟩
set_option maxHeartbeats 8000000 in
set_option maxRecDepth 100000 in
theorem beyI_calls (g : Nat) (A0 : Option Addr) (c0 : Nat) (l : List Int) (A1 : Option Addr) (c1 : Nat) (js : List S88) (x q y b a f : Int) (hw : wrap64 (x - 1) = y) (p1 : 0 ≤ y) (h2 : y < (l.length : Int)) (h3 : y < (js.length : Int)) (hbb : rd l y = b) (ha : (rd_T88 js y).f0 = a) (hff : (rd_T88 js y).f1 = f) (hb : ¬ wrap64 b = 0) (hf : ¬ wrap64 (1000 - wrap64 f) = 0) (W : World) (hg : MotP W g A0 c0 l A1 c1 js) (hr0 : Kd.C (Kd.int .u8) W A0 l.length l) (hr1 : Kd.C k88 W A1 js.length js) :
    Calls Try.prog 85 #[.pointer (some ⟨g, 0, none⟩), .int .i64 x, .int .i64 q] W fun e w' => e = .returned (.int .i64 (beyZ b a f q)) ∧ Below W.heap.size W w' := by
  have hcA : W.cell? ⟨g, 0, none⟩ = some (.slice A0 l.length c0) := (blk_cell hg 0).trans rfl
  have hcB : W.cell? ⟨g, 1, none⟩ = some (.slice A1 js.length c1) := (blk_cell hg 1).trans rfl
  obtain ⟨ad, e, hcs⟩ := Kd.at_int hr0 y p1 h2
  cases e
  obtain ⟨ae, e, hcell0, hcell1⟩ := at_T88 hr1 y p1 h3
  cases e
  have hcA2 : (W.alloc (.cells #[.int .i8 a, .int .i16 f] 88)).cell? ⟨g, 0, none⟩ = some (.slice (some ad) l.length c0) := (blk_cell (blk_alloc hg _) 0).trans rfl
  obtain ⟨ad2, e, hcs2⟩ := Kd.at_int (Kd.C_alloc hr0 (.cells #[.int .i8 a, .int .i16 f] 88)) y p1 h2
  cases e
  rw [hbb] at hcs2
  have hcA3 : (W.alloc (.cells #[.int .i8 0, .int .i16 0] 88)).cell? ⟨g, 0, none⟩ = some (.slice (some ad) l.length c0) := (blk_cell (blk_alloc hg _) 0).trans rfl
  have hcB3 : (W.alloc (.cells #[.int .i8 0, .int .i16 0] 88)).cell? ⟨g, 1, none⟩ = some (.slice (some ae) js.length c1) := (blk_cell (blk_alloc hg _) 1).trans rfl
  obtain ⟨ad3, e, hcs3⟩ := Kd.at_int (Kd.C_alloc hr0 (.cells #[.int .i8 0, .int .i16 0] 88)) y p1 h2
  cases e
  rw [hbb] at hcs3
  rw [hbb] at hcs
  obtain ⟨ae3, e, hcell03, hcell13⟩ := at_T88 (Kd.C_alloc hr1 (.cells #[.int .i8 0, .int .i16 0] 88)) y p1 h3
  cases e
  rw [ha] at hcell03
  rw [hff] at hcell13
  have hw2 : IntKind.i64.wrap (x - 1) = y := by rw [i64_w]; exact hw
  rw [ha] at hcell0
  rw [hff] at hcell1
  have hb1 : (wrap64 b == 0) = false := beq_eq_false_iff_ne.mpr hb
  have hf1 : (wrap64 (1000 - wrap64 f) == 0) = false := beq_eq_false_iff_ne.mpr hf
  have hb2 : (wrap64 b != 0) = true := bne_iff_ne.mpr hb
  have hf2 : (wrap64 (1000 - wrap64 f) != 0) = true := bne_iff_ne.mpr hf
  clear hg hr0 hr1 hbb ha hff
  replace p1 := eq_true p1
  replace h2 := eq_true h2
  replace h3 := eq_true h3
  by_cases h0 : a = 0
  · have he1 : (a == 0) = true := by simpa using h0
    have HE := Aside0.mk (show beyZ b a f q = wrap64 (q.tdiv (wrap64 b)) by rw [beyZ, if_pos h0])
    clear h0
    go_enter Try.func85, Try.ntmps85
    go_wp2
    go_region
    all_goals
      go_wp2
      go_ret
      exact ⟨by (rw [HE.out]; first | done | rfl), by repeat (first | exact Below.refl _ _ | apply pw_below_drewN | apply below_drew1 | apply below_alloc | refine below_set ?_ (Nat.le_refl _))⟩
  · have he1 : (a == 0) = false := by simpa using h0
    by_cases hq : q < lateZ b f
    · have he2 : decide (q < wrap64 (wrap64 (wrap64 (wrap64 b - 1) * 1000) + wrap64 f)) = true := decide_eq_true hq
      have HE := Aside0.mk (show beyZ b a f q = 0 by rw [beyZ, if_neg h0, if_pos hq])
      clear h0 hq
      go_enter Try.func85, Try.ntmps85
      go_wp2
      go_region
      all_goals
        go_wp2
        go_ret
        exact ⟨by (rw [HE.out]; first | done | rfl), by repeat (first | exact Below.refl _ _ | apply pw_below_drewN | apply below_drew1 | apply below_alloc | refine below_set ?_ (Nat.le_refl _))⟩
    · have he2 : decide (q < wrap64 (wrap64 (wrap64 (wrap64 b - 1) * 1000) + wrap64 f)) = false := decide_eq_false hq
      have HE := Aside0.mk (show beyZ b a f q = wrap64 ((wrap64 (wrap64 (q - wrap64 (wrap64 (wrap64 (wrap64 b - 1) * 1000) + wrap64 f)) * 1000)).tdiv (wrap64 (1000 - wrap64 f))) by rw [beyZ, if_neg h0, if_neg hq]; rfl)
      clear h0 hq
      go_enter Try.func85, Try.ntmps85
      go_wp2
      go_region
      all_goals
        go_wp2
        go_ret
        exact ⟨by (rw [HE.out]; first | done | rfl), by repeat (first | exact Below.refl _ _ | apply pw_below_drewN | apply below_drew1 | apply below_alloc | refine below_set ?_ (Nat.le_refl _))⟩
end Go.Proofs.Ytcapjgjjaolofaa.P
