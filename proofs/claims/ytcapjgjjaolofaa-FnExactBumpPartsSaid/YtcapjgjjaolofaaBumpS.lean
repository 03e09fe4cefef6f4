/- Contracts of functions that the print does not take: the reference's BumpParts. -/
import Derived.Test.YtcapjgjjaolofaaPartsB
import Derived.Test.YtcapjgjjaolofaaMotC
namespace Go.Proofs.Ytcapjgjjaolofaa.P
open Go.RowKit Go.Proofs.YtcapjgjjaolofaaW.PrintWords Go.Proofs.YtcapjgjjaolofaaW.PrintLast Go.Proofs.YtcapjgjjaolofaaW.PrintMore
set_option linter.unusedVariables false
set_option linter.unusedSimpArgs false
/-- A part moved on, as the reference reckons it. -/
def bumpS (l d : List Int) (x n : Int) : Int := Int.tmod (wrap64 (wrap64 (rd d x + n) + wholeZ (rd l x))) (wholeZ (rd l x))
/-- The three boxes behind the entry. -/
abbrev bW (w : World) (A0 : Option Addr) (c0 : Nat) (l : List Int) (A1 : Option Addr) (c1 : Nat) (js : List S88) (d : List Int) : World := ((w.alloc (.cells #[.slice A0 l.length c0, .slice A1 js.length c1] 45)).alloc (.cells (i64s d) 55)).alloc (.cells #[.int .i64 0, .int .i64 0, .int .i64 0, .int .i64 0, .int .i64 0, .int .i64 0, .int .i64 0, .int .i64 0] 55)
theorem bW_facts (w : World) (A0 : Option Addr) (c0 : Nat) (l : List Int) (A1 : Option Addr) (c1 : Nat) (js : List S88) (d : List Int) : MotP (bW w A0 c0 l A1 c1 js d) w.heap.size A0 c0 l A1 c1 js ∧ (bW w A0 c0 l A1 c1 js d).heap[w.heap.size + 1]? = some (.cells (i64s d) 55 (0, 0)) ∧ (bW w A0 c0 l A1 c1 js d).heap[w.heap.size + 1 + 1]? = some (.cells (i64s [0, 0, 0, 0, 0, 0, 0, 0]) 55 (0, 0)) ∧ Below w.heap.size w (bW w A0 c0 l A1 c1 js d) := by
  refine ⟨blk_alloc (blk_alloc (blk_new w _) _) _, ?_, ?_, below_alloc (below_alloc (below_alloc (Below.refl _ _) _) _) _⟩
  · have := blk_alloc (blk_new (w.alloc (.cells #[.slice A0 l.length c0, .slice A1 js.length c1] 45)) (.cells (i64s d) 55)) (.cells #[.int .i64 0, .int .i64 0, .int .i64 0, .int .i64 0, .int .i64 0, .int .i64 0, .int .i64 0, .int .i64 0] 55)
    rw [World.size_alloc] at this
    exact this
  · have := blk_new ((w.alloc (.cells #[.slice A0 l.length c0, .slice A1 js.length c1] 45)).alloc (.cells (i64s d) 55)) (.cells #[.int .i64 0, .int .i64 0, .int .i64 0, .int .i64 0, .int .i64 0, .int .i64 0, .int .i64 0, .int .i64 0] 55)
    rw [World.size_alloc, World.size_alloc] at this
    exact this
set_option maxHeartbeats 8000000 in
set_option maxRecDepth 100000 in
theorem bumpS_yes (k : Nat) (A0 : Option Addr) (c0 : Nat) (l : List Int) (A1 : Option Addr) (c1 : Nat) (js : List S88) (d : List Int) (hd : d.length = 8) (h8 : l.length ≤ 8) (x n : Int) (v : Bool) (hv : spec_ValidStack.f k l = some v) (hm : okM v l js = true) (hgv : givB zeroS l d = true)
    (h1 : decide (0 ≤ x ∧ x ≤ wrap64 ((l.length : Int) - 1)) = true) (h2 : decide (-1000 ≤ n ∧ n ≤ 1000) = true) (hz : ¬ wholeZ (rd l x) = 0) (w : World) (hr0 : Kd.C (Kd.int .u8) w A0 l.length l) (hc0 : l.length ≤ c0) (hr1 : Kd.C k88 w A1 js.length js) :
    Calls Try.prog 33 #[.agg #[.slice A0 l.length c0, .slice A1 js.length c1], .agg (i64s d), .int .i64 x, .int .i64 n] w fun e w' => e = .returned (.tuple #[.agg (i64s (d.set x.toNat (bumpS l d x n))), .int .i64 0]) ∧ Below w.heap.size w w' := by
  have h1' := of_decide_eq_true h1
  rw [Go.IntWalk.wrap64_in _ (show -9223372036854775808 ≤ (l.length : Int) - 1 ∧ (l.length : Int) - 1 ≤ 9223372036854775807 by omega)] at h1'
  have p1 : 0 ≤ x := h1'.1
  have q1 : x < (l.length : Int) := by omega
  have q8 : x < 8 := by omega
  obtain ⟨f1, f2, f3, f4⟩ := bW_facts w A0 c0 l A1 c1 js d
  have HV := Aside0.mk hv
  have HM := Aside0.mk hm
  have HGV := Aside0.mk hgv
  have HR0 := Aside0.mk (show Kd.C (Kd.int .u8) (bW w A0 c0 l A1 c1 js d) A0 l.length l from Kd.C_alloc (Kd.C_alloc (Kd.C_alloc hr0 _) _) _)
  have HR1 := Aside0.mk (show Kd.C k88 (bW w A0 c0 l A1 c1 js d) A1 js.length js from Kd.C_alloc (Kd.C_alloc (Kd.C_alloc hr1 _) _) _)
  have HC0 := Aside0.mk hc0
  have HI := Aside0.mk (info_i64 d hd)
  have HI2 := Aside0.mk (info_i64 (d.set x.toNat (bumpS l d x n)) (by rw [List.length_set]; exact hd))
  have HIN1 := Aside0.mk (show spec_l00In.f x 0 (wrap64 ((l.length : Int) - 1)) = some true by rw [in_fK, h1])
  have HIN2 := Aside0.mk (show spec_l00In.f n (-1000) 1000 = some true by rw [in_fK, h2])
  have F1 := Aside0.mk f1
  have F2 := Aside0.mk f2
  have F3 := Aside0.mk f3
  have F4 := Aside0.mk f4
  have HD := Aside0.mk hd
  have hz1 : (wrap64 (wrap64 (rd l x) * 1000) == 0) = false := beq_eq_false_iff_ne.mpr hz
  have hz2 : (wrap64 (wrap64 (rd l x) * 1000) != 0) = true := bne_iff_ne.mpr hz
  have hz3 : ¬ (wrap64 (wrap64 (rd l x) * 1000) = 0) := hz
  have PX := Aside0.mk (show (0 ≤ x ∧ x < (l.length : Int)) ∧ x < 8 from ⟨⟨p1, q1⟩, q8⟩)
  have H8 := Aside0.mk h8
  clear hv hm hgv h1 h2 hz hr0 hc0 hr1 h1' f1 f2 f3 f4 hd h8
  replace p1 := eq_true p1
  replace q1 := eq_true q1
  replace q8 := eq_true q8
  go_enter Try.func33, Try.ntmps33
  go_wp2_with (first | (go_at_call 66; refine (l02Ok_calls k w.heap.size A0 c0 l A1 c1 js v HV.out _ F1.out HR0.out HC0.out HR1.out).mono ?_; rintro e w1 ⟨rfl, hbel⟩; have HBEL := Aside0.mk hbel; clear hbel; have hm2 : okM v l js = true := HM.out; unfold okM at hm2; rw [hm2]; clear hm2; have G1 := Aside0.mk (show MotP w1 w.heap.size A0 c0 l A1 c1 js from blk_below F1.out HBEL.out); have G2 := Aside0.mk (blk_below F2.out HBEL.out)) | (refine wpList_load_row_g (by first | rfl | (go_simp; done) | (go_simp; rfl)) 55 (.tmp 5) rfl (w.heap.size + 1) rfl 55 (i64s d) (0, 0) _ G2.out Try.underlying55 rfl HI.out ?_) | (go_at_call 76; refine (given_list w.heap.size A0 c0 l A1 c1 js d HD.out _ G1.out (Kd.C_below HR0.out HBEL.out)).mono ?_; rw [HGV.out]; rintro e w2 ⟨rfl, hbel⟩; have HBEL2 := Aside0.mk hbel; clear hbel; have K1 := Aside0.mk (blk_below G1.out HBEL2.out); have K2 := Aside0.mk (blk_below G2.out HBEL2.out); have K3 := Aside0.mk (blk_below (blk_below F3.out HBEL.out) HBEL2.out); have KC := Aside0.mk (Kd.C_below (Kd.C_below HR0.out HBEL.out) HBEL2.out); have KB := Aside0.mk (below_step (below_step F4.out HBEL.out) HBEL2.out); have hcA : w2.cell? ⟨w.heap.size, 0, none⟩ = some (.slice A0 l.length c0) := (blk_cell K1.out 0).trans rfl; have hcd := blk_i64 K2.out x PX.out.1.1 (by have := HD.out; have := PX.out.2; omega); have hfd := blk_frozen K2.out x.toNat; obtain ⟨ad, e1, hcs⟩ := Kd.at_int KC.out x PX.out.1.1 PX.out.1.2; cases e1) | (go_at_call 52; (first | (with_reducible refine (spec_l00In.calls _ _ _ _ _ HIN1.out).mono ?_) | (with_reducible refine (spec_l00In.calls _ _ _ _ _ HIN2.out).mono ?_)); rintro e w' ⟨rfl, ⟨nd, rfl⟩⟩) | (refine wpList_load_row rfl 55 (.tmp 5) rfl (w.heap.size + 1) rfl 55 (i64s (d.set x.toNat (bumpS l d x n))) (0, 0) _ ?hl Try.underlying55 rfl HI2.out ?_; (case hl => exact blk_i64_set (blk_drewN K2.out _) _ _)) | (refine wpList_store_row rfl 55 (.tmp 8) (.tmp 50) rfl (w.heap.size + 1 + 1) (i64s (d.set x.toNat (bumpS l d x n))) rfl rfl 55 (i64s [0, 0, 0, 0, 0, 0, 0, 0]) ?hs HI2.out ?hz (i64s_one _) ?_; (case hs => exact blk_far (blk_drewN K3.out _) (show w.heap.size + 1 + 1 ≠ w.heap.size + 1 by omega) _); (case hz => rw [i64s_size, i64s_size, List.length_set, HD.out]; rfl)))
  refine bodyPost_ret (v := .tuple #[.agg (i64s (d.set x.toNat (bumpS l d x n))), .int .i64 0]) ?r rfl ⟨rfl, ?b⟩
  case r => exact results_list (vs := [.agg (i64s (d.set x.toNat (bumpS l d x n))), .int .i64 0]) rfl (by simp) (.cell (w.heap.size + 1 + 1) 55 (i64s (d.set x.toNat (bumpS l d x n))) (0, 0) _ rfl (setRow_heap _ _ _ _ _ _ (blk_far (blk_drewN K3.out _) (show w.heap.size + 1 + 1 ≠ w.heap.size + 1 by omega) _)) Try.underlying55 rfl HI2.out (.tmp .nil))
  case b => exact below_setRow (below_set (pw_below_drewN KB.out _) (show w.heap.size ≤ w.heap.size + 1 by omega)) (by omega) _
end Go.Proofs.Ytcapjgjjaolofaa.P
