/- Contracts of functions that the print does not take: EyeReads, as the program goes it. -/
import Derived.Test.YtcapjgjjaolofaaEyeI
import Derived.Test.YtcapjgjjaolofaaEyeN
import Derived.Test.YtcapjgjjaolofaaPx20
import Derived.Test.YtcapjgjjaolofaaPx12
namespace Go.Proofs.Ytcapjgjjaolofaa.P
open Go.RowKit Go.Proofs.YtcapjgjjaolofaaW.PrintWords Go.Proofs.YtcapjgjjaolofaaW.PrintLast Go.Proofs.YtcapjgjjaolofaaW.PrintMore
set_option linter.unusedVariables false
set_option linter.unusedSimpArgs false
set_option maxHeartbeats 8000000 in
set_option maxRecDepth 100000 in
theorem eyeI_a (A0 : Option Addr) (c0 : Nat) (l : List Int) (A1 : Option Addr) (c1 : Nat) (js : List S88) (d : List Int) (hd : d.length = 8) (y : Int) (hv : impl_ValidMotion.f l js = some false) (w : World) (hr0 : Kd.C (Kd.int .u8) w A0 l.length l) (hc0 : l.length ≤ c0) (hr1 : Kd.C k88 w A1 js.length js) (hc1 : js.length ≤ c1) :
    Calls Try.prog 38 #[.agg #[.slice A0 l.length c0, .slice A1 js.length c1], .agg (i64s d), .int .i64 y] w fun e w' => e = .returned (.tuple #[.agg (u8s [0, 0, 0, 0, 0, 0, 0, 0]), .int .i64 1]) ∧ Below w.heap.size w w' := by
  obtain ⟨f1, f2, f3, f4⟩ := yW_facts w A0 c0 l A1 c1 js d
  have HV := Aside0.mk hv
  have HR0 := Aside0.mk (show Kd.C (Kd.int .u8) (yW w A0 c0 l A1 c1 js d) A0 l.length l from Kd.C_alloc (Kd.C_alloc (Kd.C_alloc hr0 _) _) _)
  have HR1 := Aside0.mk (show Kd.C k88 (yW w A0 c0 l A1 c1 js d) A1 js.length js from Kd.C_alloc (Kd.C_alloc (Kd.C_alloc hr1 _) _) _)
  have HC0 := Aside0.mk hc0
  have HI := Aside0.mk (info_i64 d hd)
  have HIZ := Aside0.mk (info_u8 [0, 0, 0, 0, 0, 0, 0, 0] (rfl))
  have F1 := Aside0.mk f1
  have F2 := Aside0.mk f2
  have F3 := Aside0.mk f3
  have F4 := Aside0.mk f4
  have HD := Aside0.mk hd
  have HC1 := Aside0.mk hc1
  clear hv hr0 hc0 hr1 f1 f2 f3 f4 hd hc1
  go_enter Try.func38, Try.ntmps38
  go_wp2_with (first | (go_at_call 28; refine (impl_ValidMotion.calls _ _ l _ _ js _ _ HR0.out HC0.out HR1.out HC1.out HV.out).mono ?_; rintro e w1 ⟨rfl, hbel⟩; have HBEL := Aside0.mk hbel; clear hbel; have G1 := Aside0.mk (show MotP w1 w.heap.size A0 c0 l A1 c1 js from blk_below F1.out HBEL.out); have G2 := Aside0.mk (blk_below F2.out HBEL.out); have K3 := Aside0.mk (blk_below F3.out HBEL.out); have KB := Aside0.mk (below_step F4.out HBEL.out); have hcA : w1.cell? ⟨w.heap.size, 0, none⟩ = some (.slice A0 l.length c0) := (blk_cell G1.out 0).trans rfl) | (refine wpList_store_row rfl 29 (.tmp 6) (.tmp 17) rfl (w.heap.size + 1 + 1) (u8s [0, 0, 0, 0, 0, 0, 0, 0]) rfl rfl 29 (u8s [0, 0, 0, 0, 0, 0, 0, 0]) ?hs HIZ.out rfl (u8s_one _) ?_; (case hs => repeat (first | exact K3.out | (with_reducible refine blk_drewN ?_ _)))))
  refine bodyPost_ret (v := .tuple #[.agg (u8s [0, 0, 0, 0, 0, 0, 0, 0]), .int .i64 1]) ?r rfl ⟨rfl, ?b⟩
  case r => exact results_list (vs := [.agg (u8s [0, 0, 0, 0, 0, 0, 0, 0]), .int .i64 1]) rfl (by simp) (.cell (w.heap.size + 1 + 1) 29 (u8s [0, 0, 0, 0, 0, 0, 0, 0]) (0, 0) _ rfl (setRow_heap _ _ (u8s [0, 0, 0, 0, 0, 0, 0, 0]) _ _ _ (by repeat (first | exact K3.out | (with_reducible refine blk_drewN ?_ _)))) Try.underlying29 rfl HIZ.out (.tmp .nil))
  case b => exact below_setRow (by repeat (first | exact KB.out | apply pw_below_drewN)) (by omega) _
set_option maxHeartbeats 8000000 in
set_option maxRecDepth 100000 in
theorem eyeI_b (A0 : Option Addr) (c0 : Nat) (l : List Int) (A1 : Option Addr) (c1 : Nat) (js : List S88) (d : List Int) (hd : d.length = 8) (y : Int) (hv : impl_ValidMotion.f l js = some true) (hgv : givB zeroI l d = false) (w : World) (hr0 : Kd.C (Kd.int .u8) w A0 l.length l) (hc0 : l.length ≤ c0) (hr1 : Kd.C k88 w A1 js.length js) (hc1 : js.length ≤ c1) :
    Calls Try.prog 38 #[.agg #[.slice A0 l.length c0, .slice A1 js.length c1], .agg (i64s d), .int .i64 y] w fun e w' => e = .returned (.tuple #[.agg (u8s [0, 0, 0, 0, 0, 0, 0, 0]), .int .i64 1]) ∧ Below w.heap.size w w' := by
  obtain ⟨f1, f2, f3, f4⟩ := yW_facts w A0 c0 l A1 c1 js d
  have HV := Aside0.mk hv
  have HR0 := Aside0.mk (show Kd.C (Kd.int .u8) (yW w A0 c0 l A1 c1 js d) A0 l.length l from Kd.C_alloc (Kd.C_alloc (Kd.C_alloc hr0 _) _) _)
  have HR1 := Aside0.mk (show Kd.C k88 (yW w A0 c0 l A1 c1 js d) A1 js.length js from Kd.C_alloc (Kd.C_alloc (Kd.C_alloc hr1 _) _) _)
  have HC0 := Aside0.mk hc0
  have HI := Aside0.mk (info_i64 d hd)
  have HIZ := Aside0.mk (info_u8 [0, 0, 0, 0, 0, 0, 0, 0] (rfl))
  have F1 := Aside0.mk f1
  have F2 := Aside0.mk f2
  have F3 := Aside0.mk f3
  have F4 := Aside0.mk f4
  have HD := Aside0.mk hd
  have HC1 := Aside0.mk hc1
  have HGV := Aside0.mk hgv
  clear hv hr0 hc0 hr1 f1 f2 f3 f4 hd hc1 hgv
  go_enter Try.func38, Try.ntmps38
  go_wp2_with (first | (go_at_call 28; refine (impl_ValidMotion.calls _ _ l _ _ js _ _ HR0.out HC0.out HR1.out HC1.out HV.out).mono ?_; rintro e w1 ⟨rfl, hbel⟩; have HBEL := Aside0.mk hbel; clear hbel; have G1 := Aside0.mk (show MotP w1 w.heap.size A0 c0 l A1 c1 js from blk_below F1.out HBEL.out); have G2 := Aside0.mk (blk_below F2.out HBEL.out); have K3 := Aside0.mk (blk_below F3.out HBEL.out); have KB := Aside0.mk (below_step F4.out HBEL.out); have hcA : w1.cell? ⟨w.heap.size, 0, none⟩ = some (.slice A0 l.length c0) := (blk_cell G1.out 0).trans rfl) | (refine wpList_load_row_g (by first | rfl | (go_simp; done) | (go_simp; rfl)) 55 (.tmp 4) rfl (w.heap.size + 1) rfl 55 (i64s d) (0, 0) _ G2.out Try.underlying55 rfl HI.out ?_) | (go_at_call 77; refine (partsOK_list w.heap.size A0 c0 l A1 c1 js d HD.out _ G1.out (Kd.C_below HR0.out HBEL.out)).mono ?_; rw [HGV.out]; rintro e w2 ⟨rfl, hbel⟩; have HBEL2 := Aside0.mk hbel; clear hbel; have K1 := Aside0.mk (blk_below G1.out HBEL2.out); have K2 := Aside0.mk (blk_below G2.out HBEL2.out); have K3 := Aside0.mk (blk_below K3.out HBEL2.out); have KB := Aside0.mk (below_step KB.out HBEL2.out); have KC := Aside0.mk (Kd.C_below (Kd.C_below HR0.out HBEL.out) HBEL2.out); have hcA : w2.cell? ⟨w.heap.size, 0, none⟩ = some (.slice A0 l.length c0) := (blk_cell K1.out 0).trans rfl) | (refine wpList_store_row rfl 29 (.tmp 6) (.tmp 17) rfl (w.heap.size + 1 + 1) (u8s [0, 0, 0, 0, 0, 0, 0, 0]) rfl rfl 29 (u8s [0, 0, 0, 0, 0, 0, 0, 0]) ?hs HIZ.out rfl (u8s_one _) ?_; (case hs => repeat (first | exact K3.out | (with_reducible refine blk_drewN ?_ _)))))
  refine bodyPost_ret (v := .tuple #[.agg (u8s [0, 0, 0, 0, 0, 0, 0, 0]), .int .i64 1]) ?r rfl ⟨rfl, ?b⟩
  case r => exact results_list (vs := [.agg (u8s [0, 0, 0, 0, 0, 0, 0, 0]), .int .i64 1]) rfl (by simp) (.cell (w.heap.size + 1 + 1) 29 (u8s [0, 0, 0, 0, 0, 0, 0, 0]) (0, 0) _ rfl (setRow_heap _ _ (u8s [0, 0, 0, 0, 0, 0, 0, 0]) _ _ _ (by repeat (first | exact K3.out | (with_reducible refine blk_drewN ?_ _)))) Try.underlying29 rfl HIZ.out (.tmp .nil))
  case b => exact below_setRow (by repeat (first | exact KB.out | apply pw_below_drewN)) (by omega) _
set_option maxHeartbeats 8000000 in
set_option maxRecDepth 100000 in
theorem eyeI_c (A0 : Option Addr) (c0 : Nat) (l : List Int) (A1 : Option Addr) (c1 : Nat) (js : List S88) (d : List Int) (hd : d.length = 8) (y : Int) (hv : impl_ValidMotion.f l js = some true) (hgv : givB zeroI l d = true) (he : impl_isEye.f y = some false) (w : World) (hr0 : Kd.C (Kd.int .u8) w A0 l.length l) (hc0 : l.length ≤ c0) (hr1 : Kd.C k88 w A1 js.length js) (hc1 : js.length ≤ c1) :
    Calls Try.prog 38 #[.agg #[.slice A0 l.length c0, .slice A1 js.length c1], .agg (i64s d), .int .i64 y] w fun e w' => e = .returned (.tuple #[.agg (u8s [0, 0, 0, 0, 0, 0, 0, 0]), .int .i64 2]) ∧ Below w.heap.size w w' := by
  obtain ⟨f1, f2, f3, f4⟩ := yW_facts w A0 c0 l A1 c1 js d
  have HV := Aside0.mk hv
  have HR0 := Aside0.mk (show Kd.C (Kd.int .u8) (yW w A0 c0 l A1 c1 js d) A0 l.length l from Kd.C_alloc (Kd.C_alloc (Kd.C_alloc hr0 _) _) _)
  have HR1 := Aside0.mk (show Kd.C k88 (yW w A0 c0 l A1 c1 js d) A1 js.length js from Kd.C_alloc (Kd.C_alloc (Kd.C_alloc hr1 _) _) _)
  have HC0 := Aside0.mk hc0
  have HI := Aside0.mk (info_i64 d hd)
  have HIZ := Aside0.mk (info_u8 [0, 0, 0, 0, 0, 0, 0, 0] (rfl))
  have F1 := Aside0.mk f1
  have F2 := Aside0.mk f2
  have F3 := Aside0.mk f3
  have F4 := Aside0.mk f4
  have HD := Aside0.mk hd
  have HC1 := Aside0.mk hc1
  have HGV := Aside0.mk hgv
  have HE := Aside0.mk he
  clear hv hr0 hc0 hr1 f1 f2 f3 f4 hd hc1 hgv he
  go_enter Try.func38, Try.ntmps38
  go_wp2_with (first | (go_at_call 28; refine (impl_ValidMotion.calls _ _ l _ _ js _ _ HR0.out HC0.out HR1.out HC1.out HV.out).mono ?_; rintro e w1 ⟨rfl, hbel⟩; have HBEL := Aside0.mk hbel; clear hbel; have G1 := Aside0.mk (show MotP w1 w.heap.size A0 c0 l A1 c1 js from blk_below F1.out HBEL.out); have G2 := Aside0.mk (blk_below F2.out HBEL.out); have K3 := Aside0.mk (blk_below F3.out HBEL.out); have KB := Aside0.mk (below_step F4.out HBEL.out); have hcA : w1.cell? ⟨w.heap.size, 0, none⟩ = some (.slice A0 l.length c0) := (blk_cell G1.out 0).trans rfl) | (refine wpList_load_row_g (by first | rfl | (go_simp; done) | (go_simp; rfl)) 55 (.tmp 4) rfl (w.heap.size + 1) rfl 55 (i64s d) (0, 0) _ G2.out Try.underlying55 rfl HI.out ?_) | (go_at_call 77; refine (partsOK_list w.heap.size A0 c0 l A1 c1 js d HD.out _ G1.out (Kd.C_below HR0.out HBEL.out)).mono ?_; rw [HGV.out]; rintro e w2 ⟨rfl, hbel⟩; have HBEL2 := Aside0.mk hbel; clear hbel; have K1 := Aside0.mk (blk_below G1.out HBEL2.out); have K2 := Aside0.mk (blk_below G2.out HBEL2.out); have K3 := Aside0.mk (blk_below K3.out HBEL2.out); have KB := Aside0.mk (below_step KB.out HBEL2.out); have KC := Aside0.mk (Kd.C_below (Kd.C_below HR0.out HBEL.out) HBEL2.out); have hcA : w2.cell? ⟨w.heap.size, 0, none⟩ = some (.slice A0 l.length c0) := (blk_cell K1.out 0).trans rfl) | (go_at_call 82; refine (impl_isEye.calls _ _ _ HE.out).mono ?_; rintro e w' ⟨rfl, ⟨nd, rfl⟩⟩) | (refine wpList_store_row rfl 29 (.tmp 6) (.tmp 22) rfl (w.heap.size + 1 + 1) (u8s [0, 0, 0, 0, 0, 0, 0, 0]) rfl rfl 29 (u8s [0, 0, 0, 0, 0, 0, 0, 0]) ?hs HIZ.out rfl (u8s_one _) ?_; (case hs => repeat (first | exact K3.out | (with_reducible refine blk_drewN ?_ _)))))
  refine bodyPost_ret (v := .tuple #[.agg (u8s [0, 0, 0, 0, 0, 0, 0, 0]), .int .i64 2]) ?r rfl ⟨rfl, ?b⟩
  case r => exact results_list (vs := [.agg (u8s [0, 0, 0, 0, 0, 0, 0, 0]), .int .i64 2]) rfl (by simp) (.cell (w.heap.size + 1 + 1) 29 (u8s [0, 0, 0, 0, 0, 0, 0, 0]) (0, 0) _ rfl (setRow_heap _ _ (u8s [0, 0, 0, 0, 0, 0, 0, 0]) _ _ _ (by repeat (first | exact K3.out | (with_reducible refine blk_drewN ?_ _)))) Try.underlying29 rfl HIZ.out (.tmp .nil))
  case b => exact below_setRow (by repeat (first | exact KB.out | apply pw_below_drewN)) (by omega) _
set_option maxHeartbeats 8000000 in
set_option maxRecDepth 100000 in
theorem eyeI_d (A0 : Option Addr) (c0 : Nat) (l : List Int) (A1 : Option Addr) (c1 : Nat) (js : List S88) (d : List Int) (hd : d.length = 8) (y : Int) (hv : impl_ValidMotion.f l js = some true) (hgv : givB zeroI l d = true) (he : impl_isEye.f y = some true) (h8 : l.length ≤ 8) (hnz : ∀ b ∈ l, 2 ≤ b ∧ b ≤ 100) (w : World) (hr0 : Kd.C (Kd.int .u8) w A0 l.length l) (hc0 : l.length ≤ c0) (hr1 : Kd.C k88 w A1 js.length js) (hc1 : js.length ≤ c1) :
    Calls Try.prog 38 #[.agg #[.slice A0 l.length c0, .slice A1 js.length c1], .agg (i64s d), .int .i64 y] w fun e w' => e = .returned (.tuple #[.agg (u8s (readL (rdI y) l d)), .int .i64 0]) ∧ Below w.heap.size w w' := by
  obtain ⟨f1, f2, f3, f4⟩ := yW_facts w A0 c0 l A1 c1 js d
  have HV := Aside0.mk hv
  have HR0 := Aside0.mk (show Kd.C (Kd.int .u8) (yW w A0 c0 l A1 c1 js d) A0 l.length l from Kd.C_alloc (Kd.C_alloc (Kd.C_alloc hr0 _) _) _)
  have HR1 := Aside0.mk (show Kd.C k88 (yW w A0 c0 l A1 c1 js d) A1 js.length js from Kd.C_alloc (Kd.C_alloc (Kd.C_alloc hr1 _) _) _)
  have HC0 := Aside0.mk hc0
  have HI := Aside0.mk (info_i64 d hd)
  have HIZ := Aside0.mk (info_u8 (readL (rdI y) l d) (by rw [readL_len, hd]))
  have F1 := Aside0.mk f1
  have F2 := Aside0.mk f2
  have F3 := Aside0.mk f3
  have F4 := Aside0.mk f4
  have HD := Aside0.mk hd
  have HC1 := Aside0.mk hc1
  have HGV := Aside0.mk hgv
  have HE := Aside0.mk he
  have H8 := Aside0.mk h8
  have HNZ := Aside0.mk hnz
  have HS := Aside0.mk (show (u8s [0, 0, 0, 0, 0, 0, 0, 0]).size = (u8s (readL (rdI y) l d)).size by rw [u8s_size, u8s_size, readL_len, hd]; rfl)
  clear hv hr0 hc0 hr1 f1 f2 f3 f4 hc1 hgv he h8 hnz hd
  go_enter Try.func38, Try.ntmps38
  go_wp2_with (first | (go_at_call 28; refine (impl_ValidMotion.calls _ _ l _ _ js _ _ HR0.out HC0.out HR1.out HC1.out HV.out).mono ?_; rintro e w1 ⟨rfl, hbel⟩; have HBEL := Aside0.mk hbel; clear hbel; have G1 := Aside0.mk (show MotP w1 w.heap.size A0 c0 l A1 c1 js from blk_below F1.out HBEL.out); have G2 := Aside0.mk (blk_below F2.out HBEL.out); have K3 := Aside0.mk (blk_below F3.out HBEL.out); have KB := Aside0.mk (below_step F4.out HBEL.out); have hcA : w1.cell? ⟨w.heap.size, 0, none⟩ = some (.slice A0 l.length c0) := (blk_cell G1.out 0).trans rfl) | (refine wpList_load_row_g (by first | rfl | (go_simp; done) | (go_simp; rfl)) 55 (.tmp 4) rfl (w.heap.size + 1) rfl 55 (i64s d) (0, 0) _ G2.out Try.underlying55 rfl HI.out ?_) | (go_at_call 77; refine (partsOK_list w.heap.size A0 c0 l A1 c1 js d HD.out _ G1.out (Kd.C_below HR0.out HBEL.out)).mono ?_; rw [HGV.out]; rintro e w2 ⟨rfl, hbel⟩; have HBEL2 := Aside0.mk hbel; clear hbel; have K1 := Aside0.mk (blk_below G1.out HBEL2.out); have K2 := Aside0.mk (blk_below G2.out HBEL2.out); have K3 := Aside0.mk (blk_below K3.out HBEL2.out); have KB := Aside0.mk (below_step KB.out HBEL2.out); have KC := Aside0.mk (Kd.C_below (Kd.C_below HR0.out HBEL.out) HBEL2.out); have hcA : w2.cell? ⟨w.heap.size, 0, none⟩ = some (.slice A0 l.length c0) := (blk_cell K1.out 0).trans rfl) | (go_at_call 82; refine (impl_isEye.calls _ _ _ HE.out).mono ?_; rintro e w' ⟨rfl, ⟨nd, rfl⟩⟩) | (refine wpList_load_row_g (by first | rfl | (go_simp; done) | (go_simp; rfl)) 55 (.tmp 4) rfl (w.heap.size + 1) rfl 55 (i64s d) (0, 0) _ (by repeat (first | exact K2.out | (with_reducible refine blk_drewN ?_ _))) Try.underlying55 rfl HI.out ?_) | (go_at_call 83; refine (read_list w.heap.size A0 c0 l A1 c1 js d HD.out H8.out HNZ.out y _ ?gm ?gk).mono ?_; (case gm => exact blk_drewN K1.out _); (case gk => exact Kd.C_drewN KC.out _); rintro e w5 ⟨rfl, hbel⟩; have HBEL3 := Aside0.mk hbel; clear hbel; have K3 := Aside0.mk (blk_below (blk_drewN K3.out _) HBEL3.out); have KB := Aside0.mk (below_step (pw_below_drewN KB.out _) HBEL3.out)) | (refine wpList_store_row rfl 29 (.tmp 6) (.tmp 25) rfl (w.heap.size + 1 + 1) (u8s (readL (rdI y) l d)) rfl rfl 29 (u8s [0, 0, 0, 0, 0, 0, 0, 0]) ?hs HIZ.out HS.out (u8s_one _) ?_; (case hs => repeat (first | exact K3.out | (with_reducible refine blk_drewN ?_ _)))))
  refine bodyPost_ret (v := .tuple #[.agg (u8s (readL (rdI y) l d)), .int .i64 0]) ?r rfl ⟨rfl, ?b⟩
  case r => exact results_list (vs := [.agg (u8s (readL (rdI y) l d)), .int .i64 0]) rfl (by simp) (.cell (w.heap.size + 1 + 1) 29 (u8s (readL (rdI y) l d)) (0, 0) _ rfl (setRow_heap _ _ (u8s [0, 0, 0, 0, 0, 0, 0, 0]) _ _ _ (by repeat (first | exact K3.out | (with_reducible refine blk_drewN ?_ _)))) Try.underlying29 rfl HIZ.out (.tmp .nil))
  case b => exact below_setRow (by repeat (first | exact KB.out | apply pw_below_drewN)) (by omega) _
end Go.Proofs.Ytcapjgjjaolofaa.P
