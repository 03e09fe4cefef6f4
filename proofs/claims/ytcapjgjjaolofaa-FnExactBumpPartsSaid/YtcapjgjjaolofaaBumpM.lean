/- Contracts of functions that the print does not take: the ways of BumpParts to an error, as the program goes them. -/
import Derived.Test.YtcapjgjjaolofaaBumpS
import Derived.Test.YtcapjgjjaolofaaPx21
import Derived.Test.YtcapjgjjaolofaaPx12
namespace Go.Proofs.Ytcapjgjjaolofaa.P
open Go.RowKit Go.Proofs.YtcapjgjjaolofaaW.PrintWords Go.Proofs.YtcapjgjjaolofaaW.PrintLast Go.Proofs.YtcapjgjjaolofaaW.PrintMore
set_option linter.unusedVariables false
set_option linter.unusedSimpArgs false
set_option maxHeartbeats 8000000 in
set_option maxRecDepth 100000 in
theorem bumpI_a (A0 : Option Addr) (c0 : Nat) (l : List Int) (A1 : Option Addr) (c1 : Nat) (js : List S88) (d : List Int) (hd : d.length = 8) (x n : Int) (hv : impl_ValidMotion.f l js = some false) (w : World) (hr0 : Kd.C (Kd.int .u8) w A0 l.length l) (hc0 : l.length ≤ c0) (hr1 : Kd.C k88 w A1 js.length js) (hc1 : js.length ≤ c1) :
    Calls Try.prog 35 #[.agg #[.slice A0 l.length c0, .slice A1 js.length c1], .agg (i64s d), .int .i64 x, .int .i64 n] w fun e w' => e = .returned (.tuple #[.agg (i64s [0, 0, 0, 0, 0, 0, 0, 0]), .int .i64 1]) ∧ Below w.heap.size w w' := by
  obtain ⟨f1, f2, f3, f4⟩ := bW_facts w A0 c0 l A1 c1 js d
  have HV := Aside0.mk hv
  have HR0 := Aside0.mk (show Kd.C (Kd.int .u8) (bW w A0 c0 l A1 c1 js d) A0 l.length l from Kd.C_alloc (Kd.C_alloc (Kd.C_alloc hr0 _) _) _)
  have HR1 := Aside0.mk (show Kd.C k88 (bW w A0 c0 l A1 c1 js d) A1 js.length js from Kd.C_alloc (Kd.C_alloc (Kd.C_alloc hr1 _) _) _)
  have HC0 := Aside0.mk hc0
  have HI := Aside0.mk (info_i64 d hd)
  have HIZ := Aside0.mk (info_i64 [0, 0, 0, 0, 0, 0, 0, 0] rfl)
  have F1 := Aside0.mk f1
  have F2 := Aside0.mk f2
  have F3 := Aside0.mk f3
  have F4 := Aside0.mk f4
  have HD := Aside0.mk hd
  have HC1 := Aside0.mk hc1
  clear hv hr0 hc0 hr1 f1 f2 f3 f4 hd hc1
  go_enter Try.func35, Try.ntmps35
  go_wp2_with (first | (go_at_call 28; refine (impl_ValidMotion.calls _ _ l _ _ js _ _ HR0.out HC0.out HR1.out HC1.out HV.out).mono ?_; rintro e w1 ⟨rfl, hbel⟩; have HBEL := Aside0.mk hbel; clear hbel; have G1 := Aside0.mk (show MotP w1 w.heap.size A0 c0 l A1 c1 js from blk_below F1.out HBEL.out); have G2 := Aside0.mk (blk_below F2.out HBEL.out); have K3 := Aside0.mk (blk_below F3.out HBEL.out); have KB := Aside0.mk (below_step F4.out HBEL.out); have hcA : w1.cell? ⟨w.heap.size, 0, none⟩ = some (.slice A0 l.length c0) := (blk_cell G1.out 0).trans rfl) | (refine wpList_store_row rfl 55 (.tmp 8) (.tmp 19) rfl (w.heap.size + 1 + 1) (i64s [0, 0, 0, 0, 0, 0, 0, 0]) rfl rfl 55 (i64s [0, 0, 0, 0, 0, 0, 0, 0]) ?hs HIZ.out rfl (i64s_one _) ?_; (case hs => repeat (first | exact K3.out | (with_reducible refine blk_drewN ?_ _)))))
  refine bodyPost_ret (v := .tuple #[.agg (i64s [0, 0, 0, 0, 0, 0, 0, 0]), .int .i64 1]) ?r rfl ⟨rfl, ?b⟩
  case r => exact results_list (vs := [.agg (i64s [0, 0, 0, 0, 0, 0, 0, 0]), .int .i64 1]) rfl (by simp) (.cell (w.heap.size + 1 + 1) 55 (i64s [0, 0, 0, 0, 0, 0, 0, 0]) (0, 0) _ rfl (setRow_heap _ _ (i64s [0, 0, 0, 0, 0, 0, 0, 0]) _ _ _ (by repeat (first | exact K3.out | (with_reducible refine blk_drewN ?_ _)))) Try.underlying55 rfl HIZ.out (.tmp .nil))
  case b => exact below_setRow (by repeat (first | exact KB.out | apply pw_below_drewN)) (by omega) _
set_option maxHeartbeats 8000000 in
set_option maxRecDepth 100000 in
theorem bumpI_b (A0 : Option Addr) (c0 : Nat) (l : List Int) (A1 : Option Addr) (c1 : Nat) (js : List S88) (d : List Int) (hd : d.length = 8) (x n : Int) (hv : impl_ValidMotion.f l js = some true) (hgv : givB zeroI l d = false) (w : World) (hr0 : Kd.C (Kd.int .u8) w A0 l.length l) (hc0 : l.length ≤ c0) (hr1 : Kd.C k88 w A1 js.length js) (hc1 : js.length ≤ c1) :
    Calls Try.prog 35 #[.agg #[.slice A0 l.length c0, .slice A1 js.length c1], .agg (i64s d), .int .i64 x, .int .i64 n] w fun e w' => e = .returned (.tuple #[.agg (i64s [0, 0, 0, 0, 0, 0, 0, 0]), .int .i64 1]) ∧ Below w.heap.size w w' := by
  obtain ⟨f1, f2, f3, f4⟩ := bW_facts w A0 c0 l A1 c1 js d
  have HV := Aside0.mk hv
  have HR0 := Aside0.mk (show Kd.C (Kd.int .u8) (bW w A0 c0 l A1 c1 js d) A0 l.length l from Kd.C_alloc (Kd.C_alloc (Kd.C_alloc hr0 _) _) _)
  have HR1 := Aside0.mk (show Kd.C k88 (bW w A0 c0 l A1 c1 js d) A1 js.length js from Kd.C_alloc (Kd.C_alloc (Kd.C_alloc hr1 _) _) _)
  have HC0 := Aside0.mk hc0
  have HI := Aside0.mk (info_i64 d hd)
  have HIZ := Aside0.mk (info_i64 [0, 0, 0, 0, 0, 0, 0, 0] rfl)
  have F1 := Aside0.mk f1
  have F2 := Aside0.mk f2
  have F3 := Aside0.mk f3
  have F4 := Aside0.mk f4
  have HD := Aside0.mk hd
  have HC1 := Aside0.mk hc1
  have HGV := Aside0.mk hgv
  clear hv hr0 hc0 hr1 f1 f2 f3 f4 hd hc1 hgv
  go_enter Try.func35, Try.ntmps35
  go_wp2_with (first | (go_at_call 28; refine (impl_ValidMotion.calls _ _ l _ _ js _ _ HR0.out HC0.out HR1.out HC1.out HV.out).mono ?_; rintro e w1 ⟨rfl, hbel⟩; have HBEL := Aside0.mk hbel; clear hbel; have G1 := Aside0.mk (show MotP w1 w.heap.size A0 c0 l A1 c1 js from blk_below F1.out HBEL.out); have G2 := Aside0.mk (blk_below F2.out HBEL.out); have K3 := Aside0.mk (blk_below F3.out HBEL.out); have KB := Aside0.mk (below_step F4.out HBEL.out); have hcA : w1.cell? ⟨w.heap.size, 0, none⟩ = some (.slice A0 l.length c0) := (blk_cell G1.out 0).trans rfl) | (refine wpList_load_row_g (by first | rfl | (go_simp; done) | (go_simp; rfl)) 55 (.tmp 5) rfl (w.heap.size + 1) rfl 55 (i64s d) (0, 0) _ G2.out Try.underlying55 rfl HI.out ?_) | (go_at_call 77; refine (partsOK_list w.heap.size A0 c0 l A1 c1 js d HD.out _ G1.out (Kd.C_below HR0.out HBEL.out)).mono ?_; rw [HGV.out]; rintro e w2 ⟨rfl, hbel⟩; have HBEL2 := Aside0.mk hbel; clear hbel; have K1 := Aside0.mk (blk_below G1.out HBEL2.out); have K3 := Aside0.mk (blk_below K3.out HBEL2.out); have KB := Aside0.mk (below_step KB.out HBEL2.out); have KC := Aside0.mk (Kd.C_below (Kd.C_below HR0.out HBEL.out) HBEL2.out); have hcA : w2.cell? ⟨w.heap.size, 0, none⟩ = some (.slice A0 l.length c0) := (blk_cell K1.out 0).trans rfl) | (refine wpList_store_row rfl 55 (.tmp 8) (.tmp 19) rfl (w.heap.size + 1 + 1) (i64s [0, 0, 0, 0, 0, 0, 0, 0]) rfl rfl 55 (i64s [0, 0, 0, 0, 0, 0, 0, 0]) ?hs HIZ.out rfl (i64s_one _) ?_; (case hs => repeat (first | exact K3.out | (with_reducible refine blk_drewN ?_ _)))))
  refine bodyPost_ret (v := .tuple #[.agg (i64s [0, 0, 0, 0, 0, 0, 0, 0]), .int .i64 1]) ?r rfl ⟨rfl, ?b⟩
  case r => exact results_list (vs := [.agg (i64s [0, 0, 0, 0, 0, 0, 0, 0]), .int .i64 1]) rfl (by simp) (.cell (w.heap.size + 1 + 1) 55 (i64s [0, 0, 0, 0, 0, 0, 0, 0]) (0, 0) _ rfl (setRow_heap _ _ (i64s [0, 0, 0, 0, 0, 0, 0, 0]) _ _ _ (by repeat (first | exact K3.out | (with_reducible refine blk_drewN ?_ _)))) Try.underlying55 rfl HIZ.out (.tmp .nil))
  case b => exact below_setRow (by repeat (first | exact KB.out | apply pw_below_drewN)) (by omega) _
set_option maxHeartbeats 8000000 in
set_option maxRecDepth 100000 in
theorem bumpI_c (A0 : Option Addr) (c0 : Nat) (l : List Int) (A1 : Option Addr) (c1 : Nat) (js : List S88) (d : List Int) (hd : d.length = 8) (x n : Int) (hv : impl_ValidMotion.f l js = some true) (hgv : givB zeroI l d = true) (b1 b2 : Bool) (h1 : impl_Stack_hasWheel.f l x = some b1) (h2 : decide (-1000 ≤ n ∧ n ≤ 1000) = b2) (h3 : (b1 && b2) = false) (w : World) (hr0 : Kd.C (Kd.int .u8) w A0 l.length l) (hc0 : l.length ≤ c0) (hr1 : Kd.C k88 w A1 js.length js) (hc1 : js.length ≤ c1) :
    Calls Try.prog 35 #[.agg #[.slice A0 l.length c0, .slice A1 js.length c1], .agg (i64s d), .int .i64 x, .int .i64 n] w fun e w' => e = .returned (.tuple #[.agg (i64s [0, 0, 0, 0, 0, 0, 0, 0]), .int .i64 2]) ∧ Below w.heap.size w w' := by
  obtain ⟨f1, f2, f3, f4⟩ := bW_facts w A0 c0 l A1 c1 js d
  have HV := Aside0.mk hv
  have HR0 := Aside0.mk (show Kd.C (Kd.int .u8) (bW w A0 c0 l A1 c1 js d) A0 l.length l from Kd.C_alloc (Kd.C_alloc (Kd.C_alloc hr0 _) _) _)
  have HR1 := Aside0.mk (show Kd.C k88 (bW w A0 c0 l A1 c1 js d) A1 js.length js from Kd.C_alloc (Kd.C_alloc (Kd.C_alloc hr1 _) _) _)
  have HC0 := Aside0.mk hc0
  have HI := Aside0.mk (info_i64 d hd)
  have HIZ := Aside0.mk (info_i64 [0, 0, 0, 0, 0, 0, 0, 0] rfl)
  have F1 := Aside0.mk f1
  have F2 := Aside0.mk f2
  have F3 := Aside0.mk f3
  have F4 := Aside0.mk f4
  have HD := Aside0.mk hd
  have HC1 := Aside0.mk hc1
  have HGV := Aside0.mk hgv
  have HIN1 := Aside0.mk h1
  have HIN2 := Aside0.mk (show impl_within.f n (-1000) 1000 = some b2 by rw [within_fP, h2])
  clear hv hr0 hc0 hr1 f1 f2 f3 f4 hd hc1 hgv h1 h2
  cases b1 <;> cases b2 <;> first | (exact absurd h3 (by decide)) | skip
  all_goals
    clear h3
    go_enter Try.func35, Try.ntmps35
    go_wp2_with (first | (go_at_call 28; refine (impl_ValidMotion.calls _ _ l _ _ js _ _ HR0.out HC0.out HR1.out HC1.out HV.out).mono ?_; rintro e w1 ⟨rfl, hbel⟩; have HBEL := Aside0.mk hbel; clear hbel; have G1 := Aside0.mk (show MotP w1 w.heap.size A0 c0 l A1 c1 js from blk_below F1.out HBEL.out); have G2 := Aside0.mk (blk_below F2.out HBEL.out); have K3 := Aside0.mk (blk_below F3.out HBEL.out); have KB := Aside0.mk (below_step F4.out HBEL.out); have hcA : w1.cell? ⟨w.heap.size, 0, none⟩ = some (.slice A0 l.length c0) := (blk_cell G1.out 0).trans rfl) | (refine wpList_load_row_g (by first | rfl | (go_simp; done) | (go_simp; rfl)) 55 (.tmp 5) rfl (w.heap.size + 1) rfl 55 (i64s d) (0, 0) _ G2.out Try.underlying55 rfl HI.out ?_) | (go_at_call 77; refine (partsOK_list w.heap.size A0 c0 l A1 c1 js d HD.out _ G1.out (Kd.C_below HR0.out HBEL.out)).mono ?_; rw [HGV.out]; rintro e w2 ⟨rfl, hbel⟩; have HBEL2 := Aside0.mk hbel; clear hbel; have K1 := Aside0.mk (blk_below G1.out HBEL2.out); have K3 := Aside0.mk (blk_below K3.out HBEL2.out); have KB := Aside0.mk (below_step KB.out HBEL2.out); have KC := Aside0.mk (Kd.C_below (Kd.C_below HR0.out HBEL.out) HBEL2.out); have hcA : w2.cell? ⟨w.heap.size, 0, none⟩ = some (.slice A0 l.length c0) := (blk_cell K1.out 0).trans rfl) | (go_at_call 78; refine (impl_Stack_hasWheel.calls _ _ l _ _ _ KC.out HC0.out HIN1.out).mono ?_; rintro e w' ⟨rfl, ⟨nd, rfl⟩⟩) | (go_at_call 48; refine (impl_within.calls _ _ _ _ _ HIN2.out).mono ?_; rintro e w' ⟨rfl, ⟨nd, rfl⟩⟩) | (refine wpList_store_row rfl 55 (.tmp 8) (.tmp 31) rfl (w.heap.size + 1 + 1) (i64s [0, 0, 0, 0, 0, 0, 0, 0]) rfl rfl 55 (i64s [0, 0, 0, 0, 0, 0, 0, 0]) ?hs HIZ.out rfl (i64s_one _) ?_; (case hs => repeat (first | exact K3.out | (with_reducible refine blk_drewN ?_ _)))))
    refine bodyPost_ret (v := .tuple #[.agg (i64s [0, 0, 0, 0, 0, 0, 0, 0]), .int .i64 2]) ?r rfl ⟨rfl, ?b⟩
    case r => exact results_list (vs := [.agg (i64s [0, 0, 0, 0, 0, 0, 0, 0]), .int .i64 2]) rfl (by simp) (.cell (w.heap.size + 1 + 1) 55 (i64s [0, 0, 0, 0, 0, 0, 0, 0]) (0, 0) _ rfl (setRow_heap _ _ (i64s [0, 0, 0, 0, 0, 0, 0, 0]) _ _ _ (by repeat (first | exact K3.out | (with_reducible refine blk_drewN ?_ _)))) Try.underlying55 rfl HIZ.out (.tmp .nil))
    case b => exact below_setRow (by repeat (first | exact KB.out | apply pw_below_drewN)) (by omega) _
end Go.Proofs.Ytcapjgjjaolofaa.P
