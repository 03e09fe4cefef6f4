/- Contracts of functions that the print does not take: the program's BumpParts. -/
import Derived.Test.YtcapjgjjaolofaaBumpM
import Derived.Test.YtcapjgjjaolofaaPx9
import Derived.Deep.RegionHeld3
namespace Go.Proofs.Ytcapjgjjaolofaa.P
open Go.RowKit Go.Proofs.YtcapjgjjaolofaaW.PrintWords Go.Proofs.YtcapjgjjaolofaaW.PrintLast Go.Proofs.YtcapjgjjaolofaaW.PrintMore
set_option linter.unusedVariables false
set_option linter.unusedSimpArgs false
set_option maxHeartbeats 8000000 in
set_option maxRecDepth 100000 in
theorem bumpI_yes (A0 : Option Addr) (c0 : Nat) (l : List Int) (A1 : Option Addr) (c1 : Nat) (js : List S88) (d : List Int) (hd : d.length = 8) (h8 : l.length ≤ 8) (x n : Int) (hv : impl_ValidMotion.f l js = some true) (hgv : givB zeroI l d = true)
    (h1 : impl_Stack_hasWheel.f l x = some true) (p1 : 0 ≤ x) (q1' : x < (l.length : Int)) (h2 : decide (-1000 ≤ n ∧ n ≤ 1000) = true) (q1 q2 : Int) (hq : impl_wrapped.f (wrap64 (rd d x + n)) (wholeZ (rd l x)) = some (q1, q2)) (w : World) (hr0 : Kd.C (Kd.int .u8) w A0 l.length l) (hc0 : l.length ≤ c0) (hr1 : Kd.C k88 w A1 js.length js) (hc1 : js.length ≤ c1) :
    Calls Try.prog 35 #[.agg #[.slice A0 l.length c0, .slice A1 js.length c1], .agg (i64s d), .int .i64 x, .int .i64 n] w fun e w' => e = .returned (.tuple #[.agg (i64s (d.set x.toNat q1)), .int .i64 0]) ∧ Below w.heap.size w w' := by
  obtain ⟨f1, f2, f3, f4⟩ := bW_facts w A0 c0 l A1 c1 js d
  have q8 : x < 8 := by omega
  have HV := Aside0.mk hv
  have HQ := Aside0.mk hq
  have HR0 := Aside0.mk (show Kd.C (Kd.int .u8) (bW w A0 c0 l A1 c1 js d) A0 l.length l from Kd.C_alloc (Kd.C_alloc (Kd.C_alloc hr0 _) _) _)
  have HR1 := Aside0.mk (show Kd.C k88 (bW w A0 c0 l A1 c1 js d) A1 js.length js from Kd.C_alloc (Kd.C_alloc (Kd.C_alloc hr1 _) _) _)
  have HC0 := Aside0.mk hc0
  have HI := Aside0.mk (info_i64 d hd)
  have HI2 := Aside0.mk (info_i64 (d.set x.toNat q1) (by rw [List.length_set]; exact hd))
  have F1 := Aside0.mk f1
  have F2 := Aside0.mk f2
  have F3 := Aside0.mk f3
  have F4 := Aside0.mk f4
  have HD := Aside0.mk hd
  have HC1 := Aside0.mk hc1
  have HGV := Aside0.mk hgv
  have HIN1 := Aside0.mk h1
  have HIN2 := Aside0.mk (show impl_within.f n (-1000) 1000 = some true by rw [within_fP, h2])
  have PX := Aside0.mk (show (0 ≤ x ∧ x < (l.length : Int)) ∧ x < 8 from ⟨⟨p1, q1'⟩, q8⟩)
  clear hv hr0 hc0 hr1 f1 f2 f3 f4 hd hc1 hgv h1 h2 hq h8
  replace p1 := eq_true p1
  replace q1' := eq_true q1'
  replace q8 := eq_true q8
  go_enter Try.func35, Try.ntmps35
  go_wp2_with (first | (go_at_call 28; refine (impl_ValidMotion.calls _ _ l _ _ js _ _ HR0.out HC0.out HR1.out HC1.out HV.out).mono ?_; rintro e w1 ⟨rfl, hbel⟩; have HBEL := Aside0.mk hbel; clear hbel; have G1 := Aside0.mk (show MotP w1 w.heap.size A0 c0 l A1 c1 js from blk_below F1.out HBEL.out); have G2 := Aside0.mk (blk_below F2.out HBEL.out); have K3 := Aside0.mk (blk_below F3.out HBEL.out); have KB := Aside0.mk (below_step F4.out HBEL.out); have hcA : w1.cell? ⟨w.heap.size, 0, none⟩ = some (.slice A0 l.length c0) := (blk_cell G1.out 0).trans rfl) | (refine wpList_load_row_g (by first | rfl | (go_simp; done) | (go_simp; rfl)) 55 (.tmp 5) rfl (w.heap.size + 1) rfl 55 (i64s d) (0, 0) _ G2.out Try.underlying55 rfl HI.out ?_) | (go_at_call 77; refine (partsOK_list w.heap.size A0 c0 l A1 c1 js d HD.out _ G1.out (Kd.C_below HR0.out HBEL.out)).mono ?_; rw [HGV.out]; rintro e w2 ⟨rfl, hbel⟩; have HBEL2 := Aside0.mk hbel; clear hbel; have K1 := Aside0.mk (blk_below G1.out HBEL2.out); have K2 := Aside0.mk (blk_below G2.out HBEL2.out); have K3 := Aside0.mk (blk_below K3.out HBEL2.out); have KB := Aside0.mk (below_step KB.out HBEL2.out); have KC := Aside0.mk (Kd.C_below (Kd.C_below HR0.out HBEL.out) HBEL2.out); have hcA : w2.cell? ⟨w.heap.size, 0, none⟩ = some (.slice A0 l.length c0) := (blk_cell K1.out 0).trans rfl) | (go_at_call 78; refine (impl_Stack_hasWheel.calls _ _ l _ _ _ KC.out HC0.out HIN1.out).mono ?_; rintro e w' ⟨rfl, ⟨ndA, rfl⟩⟩) | (go_at_call 48; refine (impl_within.calls _ _ _ _ _ HIN2.out).mono ?_; rintro e w' ⟨rfl, ⟨ndB, rfl⟩⟩))
  have M1 := Aside0.mk (show MotP (w2.drewN (ndA + ndB)) w.heap.size A0 c0 l A1 c1 js from blk_drewN K1.out _)
  have M2 := Aside0.mk (blk_drewN K2.out (ndA + ndB))
  have M3 := Aside0.mk (blk_drewN K3.out (ndA + ndB))
  have MB := Aside0.mk (pw_below_drewN KB.out (ndA + ndB))
  have MC := Aside0.mk (Kd.C_drewN KC.out (ndA + ndB))
  clear K1 K2 K3 KB KC hcA
  generalize w2.drewN (ndA + ndB) = W3 at M1 M2 M3 MB MC ⊢
  have hcd := blk_i64 M2.out x PX.out.1.1 (by have := HD.out; have := PX.out.2; omega)
  have hfd := blk_frozen M2.out x.toNat
  go_region_with (first | (go_at_call 79; refine (whole_calls w.heap.size A0 c0 l A1 c1 js x PX.out.1.1 PX.out.1.2 _ ?hm ?hk).mono ?_; (case hm => repeat (first | exact M1.out | (with_reducible refine blk_drew ?_) | (with_reducible refine blk_drewN ?_ _))); (case hk => repeat (first | exact MC.out | (with_reducible refine Kd.C_drew ?_) | (with_reducible refine Kd.C_drewN ?_ _))); rintro e w5 ⟨rfl, rfl⟩; dsimp only) | (go_at_call 75; simp only [i64_w]; with_reducible refine (impl_wrapped.calls _ _ _ _ _ HQ.out).mono ?_; rintro e w6 ⟨rfl, ⟨ndC, rfl⟩⟩; dsimp only))
  all_goals
    go_wp2_with (first | (refine wpList_load_row rfl 55 (.tmp 5) rfl (w.heap.size + 1) rfl 55 (i64s (d.set x.toNat q1)) (0, 0) _ ?hl Try.underlying55 rfl HI2.out ?_; (case hl => (first | exact blk_i64_set (by repeat (first | exact M2.out | (with_reducible refine blk_drew ?_) | (with_reducible refine blk_drewN ?_ _))) _ _ | (refine blk_drew ?_; exact blk_i64_set (by repeat (first | exact M2.out | (with_reducible refine blk_drew ?_) | (with_reducible refine blk_drewN ?_ _))) _ _) | (refine blk_drewN ?_ _; exact blk_i64_set (by repeat (first | exact M2.out | (with_reducible refine blk_drew ?_) | (with_reducible refine blk_drewN ?_ _))) _ _)))) | (refine wpList_store_row rfl 55 (.tmp 8) (.tmp 45) rfl (w.heap.size + 1 + 1) (i64s (d.set x.toNat q1)) rfl rfl 55 (i64s [0, 0, 0, 0, 0, 0, 0, 0]) ?hs HI2.out ?hz (i64s_one _) ?_; (case hs => exact (by repeat (first | exact M3.out | (with_reducible refine blk_drew ?_) | (with_reducible refine blk_drewN ?_ _) | (refine blk_far ?_ (show w.heap.size + 1 + 1 ≠ w.heap.size + 1 by omega) _)))); (case hz => rw [i64s_size, i64s_size, List.length_set, HD.out]; rfl)))
    refine bodyPost_ret (v := .tuple #[.agg (i64s (d.set x.toNat q1)), .int .i64 0]) ?r rfl ⟨rfl, ?b⟩
    case r => exact results_list (vs := [.agg (i64s (d.set x.toNat q1)), .int .i64 0]) rfl (by simp) (.cell (w.heap.size + 1 + 1) 55 (i64s (d.set x.toNat q1)) (0, 0) _ rfl (setRow_heap _ _ (i64s [0, 0, 0, 0, 0, 0, 0, 0]) _ _ _ (by repeat (first | exact M3.out | (with_reducible refine blk_drew ?_) | (with_reducible refine blk_drewN ?_ _) | (refine blk_far ?_ (show w.heap.size + 1 + 1 ≠ w.heap.size + 1 by omega) _)))) Try.underlying55 rfl HI2.out (.tmp .nil))
    case b => exact below_setRow (by repeat (first | exact MB.out | apply below_drew1 | apply pw_below_drewN | refine below_set ?_ (show w.heap.size ≤ w.heap.size + 1 by omega))) (by omega) _
end Go.Proofs.Ytcapjgjjaolofaa.P
