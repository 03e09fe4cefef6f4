/- The contracts of RightFrom in the printed form. -/
import Derived.Test.YtcapjgjjaolofaaRightI
namespace Go.Proofs.Ytcapjgjjaolofaa.P
open Go.RowKit Go.Proofs.YtcapjgjjaolofaaW.PrintWords Go.Proofs.YtcapjgjjaolofaaW.PrintLast Go.Proofs.YtcapjgjjaolofaaW.PrintMore
set_option linter.unusedVariables false
set_option linter.unusedSimpArgs false
set_option maxHeartbeats 8000000 in
set_option maxRecDepth 100000 in
theorem rightS_a (k : Nat) (A0 : Option Addr) (c0 : Nat) (l : List Int) (A1 : Option Addr) (c1 : Nat) (js : List S88) (d : List Int) (hd : d.length = 8) (v : Bool) (hv : spec_ValidStack.f k l = some v) (hm : okM v l js = false) (w : World) (hr0 : Kd.C (Kd.int .u8) w A0 l.length l) (hc0 : l.length ≤ c0) (hr1 : Kd.C k88 w A1 js.length js) :
    Calls Try.prog 40 #[.agg #[.slice A0 l.length c0, .slice A1 js.length c1], .agg (i64s d)] w fun e w' => e = .returned (.tuple #[.agg (u8s [0, 0, 0, 0, 0, 0, 0, 0]), .int .i64 1]) ∧ Below w.heap.size w w' := by
  obtain ⟨f1, f2, f3, f4⟩ := gW_facts w A0 c0 l A1 c1 js d
  have HV := Aside0.mk hv
  have HR0 := Aside0.mk (show Kd.C (Kd.int .u8) (gW w A0 c0 l A1 c1 js d) A0 l.length l from Kd.C_alloc (Kd.C_alloc (Kd.C_alloc hr0 _) _) _)
  have HR1 := Aside0.mk (show Kd.C k88 (gW w A0 c0 l A1 c1 js d) A1 js.length js from Kd.C_alloc (Kd.C_alloc (Kd.C_alloc hr1 _) _) _)
  have HC0 := Aside0.mk hc0
  have HI := Aside0.mk (info_i64 d hd)
  have HIZ := Aside0.mk (info_u8 [0, 0, 0, 0, 0, 0, 0, 0] (rfl))
  have F1 := Aside0.mk f1
  have F2 := Aside0.mk f2
  have F3 := Aside0.mk f3
  have F4 := Aside0.mk f4
  have HD := Aside0.mk hd
  have HM := Aside0.mk hm
  clear hv hr0 hc0 hr1 f1 f2 f3 f4 hd hm
  go_enter Try.func40, Try.ntmps40
  go_wp2_with (first | (go_at_call 66; refine (l02Ok_calls k w.heap.size A0 c0 l A1 c1 js v HV.out _ F1.out HR0.out HC0.out HR1.out).mono ?_; rintro e w1 ⟨rfl, hbel⟩; have HBEL := Aside0.mk hbel; clear hbel; have hm2 : okM v l js = false := HM.out; unfold okM at hm2; rw [hm2]; clear hm2; have G1 := Aside0.mk (show MotP w1 w.heap.size A0 c0 l A1 c1 js from blk_below F1.out HBEL.out); have G2 := Aside0.mk (blk_below F2.out HBEL.out); have K3 := Aside0.mk (blk_below F3.out HBEL.out); have KB := Aside0.mk (below_step F4.out HBEL.out); have hcA : w1.cell? ⟨w.heap.size, 0, none⟩ = some (.slice A0 l.length c0) := (blk_cell G1.out 0).trans rfl) | (refine wpList_store_row rfl 29 (.tmp 4) (.tmp 19) rfl (w.heap.size + 1 + 1) (u8s [0, 0, 0, 0, 0, 0, 0, 0]) rfl rfl 29 (u8s [0, 0, 0, 0, 0, 0, 0, 0]) ?hs HIZ.out rfl (u8s_one _) ?_; (case hs => repeat (first | exact K3.out | (with_reducible refine blk_drewN ?_ _)))))
  refine bodyPost_ret (v := .tuple #[.agg (u8s [0, 0, 0, 0, 0, 0, 0, 0]), .int .i64 1]) ?r rfl ⟨rfl, ?b⟩
  case r => exact results_list (vs := [.agg (u8s [0, 0, 0, 0, 0, 0, 0, 0]), .int .i64 1]) rfl (by simp) (.cell (w.heap.size + 1 + 1) 29 (u8s [0, 0, 0, 0, 0, 0, 0, 0]) (0, 0) _ rfl (setRow_heap _ _ (u8s [0, 0, 0, 0, 0, 0, 0, 0]) _ _ _ (by repeat (first | exact K3.out | (with_reducible refine blk_drewN ?_ _)))) Try.underlying29 rfl HIZ.out (.tmp .nil))
  case b => exact below_setRow (by repeat (first | exact KB.out | apply pw_below_drewN)) (by omega) _
set_option maxHeartbeats 8000000 in
set_option maxRecDepth 100000 in
theorem rightS_b (k : Nat) (A0 : Option Addr) (c0 : Nat) (l : List Int) (A1 : Option Addr) (c1 : Nat) (js : List S88) (d : List Int) (hd : d.length = 8) (v : Bool) (hv : spec_ValidStack.f k l = some v) (hm : okM v l js = true) (hgv : givB zeroS l d = false) (w : World) (hr0 : Kd.C (Kd.int .u8) w A0 l.length l) (hc0 : l.length ≤ c0) (hr1 : Kd.C k88 w A1 js.length js) :
    Calls Try.prog 40 #[.agg #[.slice A0 l.length c0, .slice A1 js.length c1], .agg (i64s d)] w fun e w' => e = .returned (.tuple #[.agg (u8s [0, 0, 0, 0, 0, 0, 0, 0]), .int .i64 1]) ∧ Below w.heap.size w w' := by
  obtain ⟨f1, f2, f3, f4⟩ := gW_facts w A0 c0 l A1 c1 js d
  have HV := Aside0.mk hv
  have HR0 := Aside0.mk (show Kd.C (Kd.int .u8) (gW w A0 c0 l A1 c1 js d) A0 l.length l from Kd.C_alloc (Kd.C_alloc (Kd.C_alloc hr0 _) _) _)
  have HR1 := Aside0.mk (show Kd.C k88 (gW w A0 c0 l A1 c1 js d) A1 js.length js from Kd.C_alloc (Kd.C_alloc (Kd.C_alloc hr1 _) _) _)
  have HC0 := Aside0.mk hc0
  have HI := Aside0.mk (info_i64 d hd)
  have HIZ := Aside0.mk (info_u8 [0, 0, 0, 0, 0, 0, 0, 0] (rfl))
  have F1 := Aside0.mk f1
  have F2 := Aside0.mk f2
  have F3 := Aside0.mk f3
  have F4 := Aside0.mk f4
  have HD := Aside0.mk hd
  have HM := Aside0.mk hm
  have HGV := Aside0.mk hgv
  clear hv hr0 hc0 hr1 f1 f2 f3 f4 hd hm hgv
  go_enter Try.func40, Try.ntmps40
  go_wp2_with (first | (go_at_call 66; refine (l02Ok_calls k w.heap.size A0 c0 l A1 c1 js v HV.out _ F1.out HR0.out HC0.out HR1.out).mono ?_; rintro e w1 ⟨rfl, hbel⟩; have HBEL := Aside0.mk hbel; clear hbel; have hm2 : okM v l js = true := HM.out; unfold okM at hm2; rw [hm2]; clear hm2; have G1 := Aside0.mk (show MotP w1 w.heap.size A0 c0 l A1 c1 js from blk_below F1.out HBEL.out); have G2 := Aside0.mk (blk_below F2.out HBEL.out); have K3 := Aside0.mk (blk_below F3.out HBEL.out); have KB := Aside0.mk (below_step F4.out HBEL.out); have hcA : w1.cell? ⟨w.heap.size, 0, none⟩ = some (.slice A0 l.length c0) := (blk_cell G1.out 0).trans rfl) | (refine wpList_load_row_g (by first | rfl | (go_simp; done) | (go_simp; rfl)) 55 (.tmp 3) rfl (w.heap.size + 1) rfl 55 (i64s d) (0, 0) _ G2.out Try.underlying55 rfl HI.out ?_) | (go_at_call 76; refine (given_list w.heap.size A0 c0 l A1 c1 js d HD.out _ G1.out (Kd.C_below HR0.out HBEL.out)).mono ?_; rw [HGV.out]; rintro e w2 ⟨rfl, hbel⟩; have HBEL2 := Aside0.mk hbel; clear hbel; have K1 := Aside0.mk (blk_below G1.out HBEL2.out); have K2 := Aside0.mk (blk_below G2.out HBEL2.out); have K3 := Aside0.mk (blk_below K3.out HBEL2.out); have KB := Aside0.mk (below_step KB.out HBEL2.out); have KC := Aside0.mk (Kd.C_below (Kd.C_below HR0.out HBEL.out) HBEL2.out); have hcA : w2.cell? ⟨w.heap.size, 0, none⟩ = some (.slice A0 l.length c0) := (blk_cell K1.out 0).trans rfl) | (refine wpList_store_row rfl 29 (.tmp 4) (.tmp 19) rfl (w.heap.size + 1 + 1) (u8s [0, 0, 0, 0, 0, 0, 0, 0]) rfl rfl 29 (u8s [0, 0, 0, 0, 0, 0, 0, 0]) ?hs HIZ.out rfl (u8s_one _) ?_; (case hs => repeat (first | exact K3.out | (with_reducible refine blk_drewN ?_ _)))))
  refine bodyPost_ret (v := .tuple #[.agg (u8s [0, 0, 0, 0, 0, 0, 0, 0]), .int .i64 1]) ?r rfl ⟨rfl, ?b⟩
  case r => exact results_list (vs := [.agg (u8s [0, 0, 0, 0, 0, 0, 0, 0]), .int .i64 1]) rfl (by simp) (.cell (w.heap.size + 1 + 1) 29 (u8s [0, 0, 0, 0, 0, 0, 0, 0]) (0, 0) _ rfl (setRow_heap _ _ (u8s [0, 0, 0, 0, 0, 0, 0, 0]) _ _ _ (by repeat (first | exact K3.out | (with_reducible refine blk_drewN ?_ _)))) Try.underlying29 rfl HIZ.out (.tmp .nil))
  case b => exact below_setRow (by repeat (first | exact KB.out | apply pw_below_drewN)) (by omega) _
set_option maxHeartbeats 8000000 in
set_option maxRecDepth 100000 in
theorem rightI_a (A0 : Option Addr) (c0 : Nat) (l : List Int) (A1 : Option Addr) (c1 : Nat) (js : List S88) (d : List Int) (hd : d.length = 8) (hv : impl_ValidMotion.f l js = some false) (w : World) (hr0 : Kd.C (Kd.int .u8) w A0 l.length l) (hc0 : l.length ≤ c0) (hr1 : Kd.C k88 w A1 js.length js) (hc1 : js.length ≤ c1) :
    Calls Try.prog 41 #[.agg #[.slice A0 l.length c0, .slice A1 js.length c1], .agg (i64s d)] w fun e w' => e = .returned (.tuple #[.agg (u8s [0, 0, 0, 0, 0, 0, 0, 0]), .int .i64 1]) ∧ Below w.heap.size w w' := by
  obtain ⟨f1, f2, f3, f4⟩ := gW_facts w A0 c0 l A1 c1 js d
  have HV := Aside0.mk hv
  have HR0 := Aside0.mk (show Kd.C (Kd.int .u8) (gW w A0 c0 l A1 c1 js d) A0 l.length l from Kd.C_alloc (Kd.C_alloc (Kd.C_alloc hr0 _) _) _)
  have HR1 := Aside0.mk (show Kd.C k88 (gW w A0 c0 l A1 c1 js d) A1 js.length js from Kd.C_alloc (Kd.C_alloc (Kd.C_alloc hr1 _) _) _)
  have HC0 := Aside0.mk hc0
  have HI := Aside0.mk (info_i64 d hd)
  have HIZ := Aside0.mk (info_u8 [0, 0, 0, 0, 0, 0, 0, 0] (rfl))
  have F1 := Aside0.mk f1
  have F2 := Aside0.mk f2
  have F3 := Aside0.mk f3
  have F4 := Aside0.mk f4
  have HD := Aside0.mk hd
  have HC1 := Aside0.mk hc1
  clear hv hr0 hc0 hr1 f1 f2 f3 f4 hd hc1
  go_enter Try.func41, Try.ntmps41
  go_wp2_with (first | (go_at_call 28; refine (impl_ValidMotion.calls _ _ l _ _ js _ _ HR0.out HC0.out HR1.out HC1.out HV.out).mono ?_; rintro e w1 ⟨rfl, hbel⟩; have HBEL := Aside0.mk hbel; clear hbel; have G1 := Aside0.mk (show MotP w1 w.heap.size A0 c0 l A1 c1 js from blk_below F1.out HBEL.out); have G2 := Aside0.mk (blk_below F2.out HBEL.out); have K3 := Aside0.mk (blk_below F3.out HBEL.out); have KB := Aside0.mk (below_step F4.out HBEL.out); have hcA : w1.cell? ⟨w.heap.size, 0, none⟩ = some (.slice A0 l.length c0) := (blk_cell G1.out 0).trans rfl) | (refine wpList_store_row rfl 29 (.tmp 4) (.tmp 20) rfl (w.heap.size + 1 + 1) (u8s [0, 0, 0, 0, 0, 0, 0, 0]) rfl rfl 29 (u8s [0, 0, 0, 0, 0, 0, 0, 0]) ?hs HIZ.out rfl (u8s_one _) ?_; (case hs => repeat (first | exact K3.out | (with_reducible refine blk_drewN ?_ _)))))
  refine bodyPost_ret (v := .tuple #[.agg (u8s [0, 0, 0, 0, 0, 0, 0, 0]), .int .i64 1]) ?r rfl ⟨rfl, ?b⟩
  case r => exact results_list (vs := [.agg (u8s [0, 0, 0, 0, 0, 0, 0, 0]), .int .i64 1]) rfl (by simp) (.cell (w.heap.size + 1 + 1) 29 (u8s [0, 0, 0, 0, 0, 0, 0, 0]) (0, 0) _ rfl (setRow_heap _ _ (u8s [0, 0, 0, 0, 0, 0, 0, 0]) _ _ _ (by repeat (first | exact K3.out | (with_reducible refine blk_drewN ?_ _)))) Try.underlying29 rfl HIZ.out (.tmp .nil))
  case b => exact below_setRow (by repeat (first | exact KB.out | apply pw_below_drewN)) (by omega) _
set_option maxHeartbeats 8000000 in
set_option maxRecDepth 100000 in
theorem rightI_b (A0 : Option Addr) (c0 : Nat) (l : List Int) (A1 : Option Addr) (c1 : Nat) (js : List S88) (d : List Int) (hd : d.length = 8) (hv : impl_ValidMotion.f l js = some true) (hgv : givB zeroI l d = false) (w : World) (hr0 : Kd.C (Kd.int .u8) w A0 l.length l) (hc0 : l.length ≤ c0) (hr1 : Kd.C k88 w A1 js.length js) (hc1 : js.length ≤ c1) :
    Calls Try.prog 41 #[.agg #[.slice A0 l.length c0, .slice A1 js.length c1], .agg (i64s d)] w fun e w' => e = .returned (.tuple #[.agg (u8s [0, 0, 0, 0, 0, 0, 0, 0]), .int .i64 1]) ∧ Below w.heap.size w w' := by
  obtain ⟨f1, f2, f3, f4⟩ := gW_facts w A0 c0 l A1 c1 js d
  have HV := Aside0.mk hv
  have HR0 := Aside0.mk (show Kd.C (Kd.int .u8) (gW w A0 c0 l A1 c1 js d) A0 l.length l from Kd.C_alloc (Kd.C_alloc (Kd.C_alloc hr0 _) _) _)
  have HR1 := Aside0.mk (show Kd.C k88 (gW w A0 c0 l A1 c1 js d) A1 js.length js from Kd.C_alloc (Kd.C_alloc (Kd.C_alloc hr1 _) _) _)
  have HC0 := Aside0.mk hc0
  have HI := Aside0.mk (info_i64 d hd)
  have HIZ := Aside0.mk (info_u8 [0, 0, 0, 0, 0, 0, 0, 0] (rfl))
  have F1 := Aside0.mk f1
  have F2 := Aside0.mk f2
  have F3 := Aside0.mk f3
  have F4 := Aside0.mk f4
  have HD := Aside0.mk hd
  have HC1 := Aside0.mk hc1
  have HGV := Aside0.mk hgv
  clear hv hr0 hc0 hr1 f1 f2 f3 f4 hd hc1 hgv
  go_enter Try.func41, Try.ntmps41
  go_wp2_with (first | (go_at_call 28; refine (impl_ValidMotion.calls _ _ l _ _ js _ _ HR0.out HC0.out HR1.out HC1.out HV.out).mono ?_; rintro e w1 ⟨rfl, hbel⟩; have HBEL := Aside0.mk hbel; clear hbel; have G1 := Aside0.mk (show MotP w1 w.heap.size A0 c0 l A1 c1 js from blk_below F1.out HBEL.out); have G2 := Aside0.mk (blk_below F2.out HBEL.out); have K3 := Aside0.mk (blk_below F3.out HBEL.out); have KB := Aside0.mk (below_step F4.out HBEL.out); have hcA : w1.cell? ⟨w.heap.size, 0, none⟩ = some (.slice A0 l.length c0) := (blk_cell G1.out 0).trans rfl) | (refine wpList_load_row_g (by first | rfl | (go_simp; done) | (go_simp; rfl)) 55 (.tmp 3) rfl (w.heap.size + 1) rfl 55 (i64s d) (0, 0) _ G2.out Try.underlying55 rfl HI.out ?_) | (go_at_call 77; refine (partsOK_list w.heap.size A0 c0 l A1 c1 js d HD.out _ G1.out (Kd.C_below HR0.out HBEL.out)).mono ?_; rw [HGV.out]; rintro e w2 ⟨rfl, hbel⟩; have HBEL2 := Aside0.mk hbel; clear hbel; have K1 := Aside0.mk (blk_below G1.out HBEL2.out); have K2 := Aside0.mk (blk_below G2.out HBEL2.out); have K3 := Aside0.mk (blk_below K3.out HBEL2.out); have KB := Aside0.mk (below_step KB.out HBEL2.out); have KC := Aside0.mk (Kd.C_below (Kd.C_below HR0.out HBEL.out) HBEL2.out); have hcA : w2.cell? ⟨w.heap.size, 0, none⟩ = some (.slice A0 l.length c0) := (blk_cell K1.out 0).trans rfl) | (refine wpList_store_row rfl 29 (.tmp 4) (.tmp 20) rfl (w.heap.size + 1 + 1) (u8s [0, 0, 0, 0, 0, 0, 0, 0]) rfl rfl 29 (u8s [0, 0, 0, 0, 0, 0, 0, 0]) ?hs HIZ.out rfl (u8s_one _) ?_; (case hs => repeat (first | exact K3.out | (with_reducible refine blk_drewN ?_ _)))))
  refine bodyPost_ret (v := .tuple #[.agg (u8s [0, 0, 0, 0, 0, 0, 0, 0]), .int .i64 1]) ?r rfl ⟨rfl, ?b⟩
  case r => exact results_list (vs := [.agg (u8s [0, 0, 0, 0, 0, 0, 0, 0]), .int .i64 1]) rfl (by simp) (.cell (w.heap.size + 1 + 1) 29 (u8s [0, 0, 0, 0, 0, 0, 0, 0]) (0, 0) _ rfl (setRow_heap _ _ (u8s [0, 0, 0, 0, 0, 0, 0, 0]) _ _ _ (by repeat (first | exact K3.out | (with_reducible refine blk_drewN ?_ _)))) Try.underlying29 rfl HIZ.out (.tmp .nil))
  case b => exact below_setRow (by repeat (first | exact KB.out | apply pw_below_drewN)) (by omega) _
/-- Digits and a code, one by one. -/
def digsT (d : List Int) (c : Int) : Int × Int × Int × Int × Int × Int × Int × Int × Int := (d.getD 0 0, d.getD 1 0, d.getD 2 0, d.getD 3 0, d.getD 4 0, d.getD 5 0, d.getD 6 0, d.getD 7 0, c)
theorem digsT_val (d : List Int) (c : Int) (hd : d.length = 8) {r1 r2 r3 r4 r5 r6 r7 r8 r9 : Int} (h : digsT d c = (r1, r2, r3, r4, r5, r6, r7, r8, r9)) : (Value.tuple #[.agg (u8s d), .int .i64 c]) = .tuple #[.agg #[.int .u8 r1, .int .u8 r2, .int .u8 r3, .int .u8 r4, .int .u8 r5, .int .u8 r6, .int .u8 r7, .int .u8 r8], .int .i64 r9] := by
  obtain ⟨c0, c1, c2, c3, c4, c5, c6, c7, rfl⟩ := list8 hd
  simp only [digsT, Prod.mk.injEq] at h
  obtain ⟨rfl, rfl, rfl, rfl, rfl, rfl, rfl, rfl, rfl⟩ := h
  rfl
def spec_RightFrom.f (k : Nat) (l0_0 : List Int) (l0_1 : List S88) (a1_0 : Int) (a1_1 : Int) (a1_2 : Int) (a1_3 : Int) (a1_4 : Int) (a1_5 : Int) (a1_6 : Int) (a1_7 : Int) : Option (Int × Int × Int × Int × Int × Int × Int × Int × Int) := (spec_ValidStack.f k l0_0).bind fun v => if okM v l0_0 l0_1 = true then (if givB zeroS l0_0 [a1_0, a1_1, a1_2, a1_3, a1_4, a1_5, a1_6, a1_7] = true then (if (l0_0.length ≤ 8 ∧ 1 ≤ l0_0.length ∧ l0_1.length + 1 = l0_0.length) ∧ (∀ b ∈ l0_0, 2 ≤ b ∧ b ≤ 100) ∧ (∀ j ∈ l0_1, ¬ wrap64 (1000 - wrap64 j.f1) = 0) then some (digsT (rgS l0_0 l0_1 [a1_0, a1_1, a1_2, a1_3, a1_4, a1_5, a1_6, a1_7] (l0_0.length - 1)).2 0) else none) else some (digsT [0, 0, 0, 0, 0, 0, 0, 0] 1)) else some (digsT [0, 0, 0, 0, 0, 0, 0, 0] 1)
theorem spec_RightFrom.mono : ∀ a b a1_0 a1_1 a1_2 a1_3 a1_4 a1_5 a1_6 a1_7 k, LeO (spec_RightFrom.f k a b a1_0 a1_1 a1_2 a1_3 a1_4 a1_5 a1_6 a1_7) (spec_RightFrom.f (k + 1) a b a1_0 a1_1 a1_2 a1_3 a1_4 a1_5 a1_6 a1_7) := by
  intro a b a1_0 a1_1 a1_2 a1_3 a1_4 a1_5 a1_6 a1_7 k
  unfold spec_RightFrom.f
  repeat' first
      | (with_reducible exact spec_ValidStack.mono _ _)
      | (with_reducible exact LeO.refl _)
      | (with_reducible refine LeO.bind ?_ (fun _ => ?_))
theorem spec_RightFrom.calls (k : Nat) (A0_0 : Option Addr) (c0_0 : Nat) (l0_0 : List Int) (A0_1 : Option Addr) (c0_1 : Nat) (l0_1 : List S88) (a1_0 : Int) (a1_1 : Int) (a1_2 : Int) (a1_3 : Int) (a1_4 : Int) (a1_5 : Int) (a1_6 : Int) (a1_7 : Int) (r1 : Int) (r2 : Int) (r3 : Int) (r4 : Int) (r5 : Int) (r6 : Int) (r7 : Int) (r8 : Int) (r9 : Int) (w : World) (hr0_0 : Kd.C (Kd.int .u8) w A0_0 l0_0.length l0_0) (hc0_0 : l0_0.length ≤ c0_0) (hr0_1 : Kd.C k88 w A0_1 l0_1.length l0_1) (hc0_1 : l0_1.length ≤ c0_1) (h : spec_RightFrom.f k l0_0 l0_1 a1_0 a1_1 a1_2 a1_3 a1_4 a1_5 a1_6 a1_7 = some (r1, r2, r3, r4, r5, r6, r7, r8, r9)) :
    Calls Try.prog 40 #[.agg #[.slice A0_0 l0_0.length c0_0, .slice A0_1 l0_1.length c0_1], .agg #[.int .i64 a1_0, .int .i64 a1_1, .int .i64 a1_2, .int .i64 a1_3, .int .i64 a1_4, .int .i64 a1_5, .int .i64 a1_6, .int .i64 a1_7]] w fun e w' => e = .returned (.tuple #[.agg #[.int .u8 r1, .int .u8 r2, .int .u8 r3, .int .u8 r4, .int .u8 r5, .int .u8 r6, .int .u8 r7, .int .u8 r8], .int .i64 r9]) ∧ Below w.heap.size w w' := by
  unfold spec_RightFrom.f at h
  replace h := Option.bind_eq_some_iff.mp h
  obtain ⟨v, hv, h⟩ := h
  by_cases hm : okM v l0_0 l0_1 = true
  · rw [if_pos hm] at h
    by_cases hg : givB zeroS l0_0 [a1_0, a1_1, a1_2, a1_3, a1_4, a1_5, a1_6, a1_7] = true
    · rw [if_pos hg] at h
      by_cases h8 : (l0_0.length ≤ 8 ∧ 1 ≤ l0_0.length ∧ l0_1.length + 1 = l0_0.length) ∧ (∀ b ∈ l0_0, 2 ≤ b ∧ b ≤ 100) ∧ (∀ j ∈ l0_1, ¬ wrap64 (1000 - wrap64 j.f1) = 0)
      · rw [if_pos h8] at h
        have := rightS_d k A0_0 c0_0 l0_0 A0_1 c0_1 l0_1 [a1_0, a1_1, a1_2, a1_3, a1_4, a1_5, a1_6, a1_7] rfl v hv hm hg h8.1.1 h8.1.2.1 h8.1.2.2 h8.2.1 h8.2.2 w hr0_0 hc0_0 hr0_1
        rw [digsT_val _ _ (rgS_len _ _ _ _) (Option.some.inj h)] at this
        exact this
      · rw [if_neg h8] at h
        cases h
    · rw [if_neg hg] at h
      have := rightS_b k A0_0 c0_0 l0_0 A0_1 c0_1 l0_1 [a1_0, a1_1, a1_2, a1_3, a1_4, a1_5, a1_6, a1_7] rfl v hv hm (by simpa using hg) w hr0_0 hc0_0 hr0_1
      rw [digsT_val _ _ rfl (Option.some.inj h)] at this
      exact this
  · rw [if_neg hm] at h
    have := rightS_a k A0_0 c0_0 l0_0 A0_1 c0_1 l0_1 [a1_0, a1_1, a1_2, a1_3, a1_4, a1_5, a1_6, a1_7] rfl v hv (by simpa using hm) w hr0_0 hc0_0 hr0_1
    rw [digsT_val _ _ rfl (Option.some.inj h)] at this
    exact this
def impl_RightFrom.f (l0_0 : List Int) (l0_1 : List S88) (a1_0 : Int) (a1_1 : Int) (a1_2 : Int) (a1_3 : Int) (a1_4 : Int) (a1_5 : Int) (a1_6 : Int) (a1_7 : Int) : Option (Int × Int × Int × Int × Int × Int × Int × Int × Int) := (impl_ValidMotion.f l0_0 l0_1).bind fun v => if v = true then (if givB zeroI l0_0 [a1_0, a1_1, a1_2, a1_3, a1_4, a1_5, a1_6, a1_7] = true then (if (l0_0.length ≤ 8 ∧ 1 ≤ l0_0.length ∧ l0_1.length + 1 = l0_0.length) ∧ (∀ b ∈ l0_0, 2 ≤ b ∧ b ≤ 100) ∧ (∀ j ∈ l0_1, ¬ wrap64 (1000 - wrap64 j.f1) = 0) then some (digsT (rgI l0_0 l0_1 [a1_0, a1_1, a1_2, a1_3, a1_4, a1_5, a1_6, a1_7] (l0_0.length - 1)).2 0) else none) else some (digsT [0, 0, 0, 0, 0, 0, 0, 0] 1)) else some (digsT [0, 0, 0, 0, 0, 0, 0, 0] 1)
theorem impl_RightFrom.calls (A0_0 : Option Addr) (c0_0 : Nat) (l0_0 : List Int) (A0_1 : Option Addr) (c0_1 : Nat) (l0_1 : List S88) (a1_0 : Int) (a1_1 : Int) (a1_2 : Int) (a1_3 : Int) (a1_4 : Int) (a1_5 : Int) (a1_6 : Int) (a1_7 : Int) (r1 : Int) (r2 : Int) (r3 : Int) (r4 : Int) (r5 : Int) (r6 : Int) (r7 : Int) (r8 : Int) (r9 : Int) (w : World) (hr0_0 : Kd.C (Kd.int .u8) w A0_0 l0_0.length l0_0) (hc0_0 : l0_0.length ≤ c0_0) (hr0_1 : Kd.C k88 w A0_1 l0_1.length l0_1) (hc0_1 : l0_1.length ≤ c0_1) (h : impl_RightFrom.f l0_0 l0_1 a1_0 a1_1 a1_2 a1_3 a1_4 a1_5 a1_6 a1_7 = some (r1, r2, r3, r4, r5, r6, r7, r8, r9)) :
    Calls Try.prog 41 #[.agg #[.slice A0_0 l0_0.length c0_0, .slice A0_1 l0_1.length c0_1], .agg #[.int .i64 a1_0, .int .i64 a1_1, .int .i64 a1_2, .int .i64 a1_3, .int .i64 a1_4, .int .i64 a1_5, .int .i64 a1_6, .int .i64 a1_7]] w fun e w' => e = .returned (.tuple #[.agg #[.int .u8 r1, .int .u8 r2, .int .u8 r3, .int .u8 r4, .int .u8 r5, .int .u8 r6, .int .u8 r7, .int .u8 r8], .int .i64 r9]) ∧ Below w.heap.size w w' := by
  unfold impl_RightFrom.f at h
  replace h := Option.bind_eq_some_iff.mp h
  obtain ⟨v, hv, h⟩ := h
  cases v with
  | true =>
    rw [if_pos rfl] at h
    by_cases hg : givB zeroI l0_0 [a1_0, a1_1, a1_2, a1_3, a1_4, a1_5, a1_6, a1_7] = true
    · rw [if_pos hg] at h
      by_cases h8 : (l0_0.length ≤ 8 ∧ 1 ≤ l0_0.length ∧ l0_1.length + 1 = l0_0.length) ∧ (∀ b ∈ l0_0, 2 ≤ b ∧ b ≤ 100) ∧ (∀ j ∈ l0_1, ¬ wrap64 (1000 - wrap64 j.f1) = 0)
      · rw [if_pos h8] at h
        have := rightI_d A0_0 c0_0 l0_0 A0_1 c0_1 l0_1 [a1_0, a1_1, a1_2, a1_3, a1_4, a1_5, a1_6, a1_7] rfl hv hg h8.1.1 h8.1.2.1 h8.1.2.2 h8.2.1 h8.2.2 w hr0_0 hc0_0 hr0_1 hc0_1
        rw [digsT_val _ _ (rgI_len _ _ _ _) (Option.some.inj h)] at this
        exact this
      · rw [if_neg h8] at h
        cases h
    · rw [if_neg hg] at h
      have := rightI_b A0_0 c0_0 l0_0 A0_1 c0_1 l0_1 [a1_0, a1_1, a1_2, a1_3, a1_4, a1_5, a1_6, a1_7] rfl hv (by simpa using hg) w hr0_0 hc0_0 hr0_1 hc0_1
      rw [digsT_val _ _ rfl (Option.some.inj h)] at this
      exact this
  | false =>
    rw [if_neg (by decide)] at h
    have := rightI_a A0_0 c0_0 l0_0 A0_1 c0_1 l0_1 [a1_0, a1_1, a1_2, a1_3, a1_4, a1_5, a1_6, a1_7] rfl hv w hr0_0 hc0_0 hr0_1 hc0_1
    rw [digsT_val _ _ rfl (Option.some.inj h)] at this
    exact this
end Go.Proofs.Ytcapjgjjaolofaa.P
