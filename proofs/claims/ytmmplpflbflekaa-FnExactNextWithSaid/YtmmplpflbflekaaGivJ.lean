/- The contracts of the next time that a wheel shows a digit. -/
import Derived.Test.YtmmplpflbflekaaGivG
import Derived.Test.YtmmplpflbflekaaGivF
import Derived.Test.YtmmplpflbflekaaPx13
import Derived.Test.YtmmplpflbflekaaPx5
import Derived.Test.YtmmplpflbflekaaPx2
import Derived.Test.YtmmplpflbflekaaPx7
import Derived.Test.YtmmplpflbflekaaPx12
namespace Go.Proofs.Ytmmplpflbflekaa.P
open Go.RowKit Go.Proofs.YtmmplpflbflekaaW.PrintWords Go.Proofs.YtmmplpflbflekaaW.PrintLast Go.Proofs.YtmmplpflbflekaaW.PrintMore
set_option linter.unusedVariables false
set_option linter.unusedSimpArgs false
set_option maxHeartbeats 8000000 in
set_option maxRecDepth 100000 in
theorem nextS_no (A0 : Option Addr) (c0 : Nat) (l0 d : List Int) (hd : d.length = 8) (x g : Int) (w : World) (hr0 : Kd.C (Kd.int .u8) w A0 l0.length l0) (hc0 : l0.length ≤ c0)
    (hv : ∀ w1, Kd.C (Kd.int .u8) w1 A0 l0.length l0 → Calls Try.prog 25 #[.slice A0 l0.length c0, .agg (u8s d)] w1 fun e w' => e = .returned (.bool false) ∧ Below w1.heap.size w1 w') :
    Calls Try.prog 41 #[.slice A0 l0.length c0, .agg (u8s d), .int .i64 x, .int .i64 g] w fun e w' => e = .returned (.tuple #[.int .i64 0, .int .i64 1]) ∧ Below w.heap.size w w' := by
  have HR0 := Aside0.mk hr0
  have HC0 := Aside0.mk hc0
  have HI := Aside0.mk (info_u8 d hd)
  have HV := Aside0.mk hv
  have HB0 := Aside0.mk (blk_new w (.cells (u8s d) 35))
  clear hd hr0 hc0 hv
  go_enter Try.func41, Try.ntmps41
  go_wp2_with (first | (go_at_call 25; refine (HV.out _ ?sz).mono ?_; (case sz => repeat (first | exact HR0.out | (with_reducible refine Kd.C_alloc ?_ _) | (with_reducible refine Kd.C_drewN ?_ _) | (with_reducible refine Kd.C_drew ?_))); rintro e w1 ⟨rfl, hbel⟩; have HBEL := Aside0.mk hbel; clear hbel; have HC1 := Aside0.mk (blk_below HB0.out HBEL.out); have HW1 := Aside0.mk ((below_alloc (Below.refl w.heap.size w) _).trans (HBEL.out.mono (by simp)))) | (refine wpList_load_row rfl 35 (.tmp 5) rfl w.heap.size rfl 35 (u8s d) (0, 0) _ HB0.out Try.underlying35 rfl HI.out ?_))
  go_ret2
  exact ⟨rfl, HW1.out⟩
section
set_option maxHeartbeats 8000000
set_option maxRecDepth 100000
variable (A0 : Option Addr) (c0 : Nat) (l0 d : List Int) (x g : Int) (w : World)
theorem nextS_wheel (hd : d.length = 8) (hr0 : Kd.C (Kd.int .u8) w A0 l0.length l0) (hc0 : l0.length ≤ c0) (hw : spec_l01Wheel.f l0 x = some false)
    (hv : ∀ w1, Kd.C (Kd.int .u8) w1 A0 l0.length l0 → Calls Try.prog 25 #[.slice A0 l0.length c0, .agg (u8s d)] w1 fun e w' => e = .returned (.bool true) ∧ Below w1.heap.size w1 w') :
    Calls Try.prog 41 #[.slice A0 l0.length c0, .agg (u8s d), .int .i64 x, .int .i64 g] w fun e w' => e = .returned (.tuple #[.int .i64 0, .int .i64 2]) ∧ Below w.heap.size w w' := by
  have HR0 := Aside0.mk hr0
  have HC0 := Aside0.mk hc0
  have HW := Aside0.mk hw
  have HI := Aside0.mk (info_u8 d hd)
  have HV := Aside0.mk hv
  have HB0 := Aside0.mk (blk_new w (.cells (u8s d) 35))
  clear hd hr0 hc0 hv hw
  go_enter Try.func41, Try.ntmps41
  go_wp2_with (first | (go_at_call 25; refine (HV.out _ ?sz).mono ?_; (case sz => repeat (first | exact HR0.out | (with_reducible refine Kd.C_alloc ?_ _) | (with_reducible refine Kd.C_drewN ?_ _) | (with_reducible refine Kd.C_drew ?_))); rintro e w1 ⟨rfl, hbel⟩; have HBEL := Aside0.mk hbel; clear hbel; have HC1 := Aside0.mk (blk_below HB0.out HBEL.out); have HW1 := Aside0.mk ((below_alloc (Below.refl w.heap.size w) _).trans (HBEL.out.mono (by simp))); have HR1 := Aside0.mk (Kd.C_below HR0.out HW1.out)) | (refine wpList_load_row rfl 35 (.tmp 5) rfl w.heap.size rfl 35 (u8s d) (0, 0) _ HB0.out Try.underlying35 rfl HI.out ?_) | (go_at_call 52; refine (spec_l01Wheel.calls A0 c0 l0 x false _ HR1.out HC0.out HW.out).mono ?_; rintro e w' ⟨rfl, ⟨nd, rfl⟩⟩))
  go_ret2
  exact ⟨rfl, by first | exact HW1.out | exact pw_below_drewN HW1.out _⟩
theorem nextS_digit (hd : d.length = 8) (hr0 : Kd.C (Kd.int .u8) w A0 l0.length l0) (hc0 : l0.length ≤ c0) (hw : spec_l01Wheel.f l0 x = some true) (h0 : 0 ≤ x) (h1 : x < (l0.length : Int)) (hg : spec_l00In.f g 0 (wrap64 (wrap64 (rd l0 x) - 1)) = some false)
    (hv : ∀ w1, Kd.C (Kd.int .u8) w1 A0 l0.length l0 → Calls Try.prog 25 #[.slice A0 l0.length c0, .agg (u8s d)] w1 fun e w' => e = .returned (.bool true) ∧ Below w1.heap.size w1 w') :
    Calls Try.prog 41 #[.slice A0 l0.length c0, .agg (u8s d), .int .i64 x, .int .i64 g] w fun e w' => e = .returned (.tuple #[.int .i64 0, .int .i64 2]) ∧ Below w.heap.size w w' := by
  have HR0 := Aside0.mk hr0
  have HC0 := Aside0.mk hc0
  have HW := Aside0.mk hw
  have HG := Aside0.mk hg
  have HI := Aside0.mk (info_u8 d hd)
  have HV := Aside0.mk hv
  have HB0 := Aside0.mk (blk_new w (.cells (u8s d) 35))
  obtain ⟨AD, e, _⟩ := Kd.at_int hr0 x h0 h1
  cases e
  clear hd hr0 hc0 hv hw hg
  replace h0 := eq_true h0
  replace h1 := eq_true h1
  go_enter Try.func41, Try.ntmps41
  go_wp2_with (first | (go_at_call 25; refine (HV.out _ ?sz).mono ?_; (case sz => repeat (first | exact HR0.out | (with_reducible refine Kd.C_alloc ?_ _) | (with_reducible refine Kd.C_drewN ?_ _) | (with_reducible refine Kd.C_drew ?_))); rintro e w1 ⟨rfl, hbel⟩; have HBEL := Aside0.mk hbel; clear hbel; have HC1 := Aside0.mk (blk_below HB0.out HBEL.out); have HW1 := Aside0.mk ((below_alloc (Below.refl w.heap.size w) _).trans (HBEL.out.mono (by simp))); have HR1 := Aside0.mk (Kd.C_below HR0.out HW1.out); obtain ⟨_, e, hcs⟩ := Kd.at_int HR1.out x (of_eq_true h0) (of_eq_true h1); cases e) | (refine wpList_load_row rfl 35 (.tmp 5) rfl w.heap.size rfl 35 (u8s d) (0, 0) _ HB0.out Try.underlying35 rfl HI.out ?_) | (go_at_call 52; refine (spec_l01Wheel.calls _ c0 l0 x true _ HR1.out HC0.out HW.out).mono ?_; rintro e w' ⟨rfl, ⟨nd, rfl⟩⟩) | (go_at_call 57; refine (spec_l00In.calls _ _ _ false _ HG.out).mono ?_; rintro e w' ⟨rfl, ⟨nd2, rfl⟩⟩))
  go_ret2
  exact ⟨rfl, by repeat (first | exact HW1.out | refine pw_below_drewN ?_ _)⟩
theorem nextS_equal (hd : d.length = 8) (h8 : l0.length ≤ 8) (hr0 : Kd.C (Kd.int .u8) w A0 l0.length l0) (hc0 : l0.length ≤ c0) (hw : spec_l01Wheel.f l0 x = some true) (h0 : 0 ≤ x) (h1 : x < (l0.length : Int)) (hg : spec_l00In.f g 0 (wrap64 (wrap64 (rd l0 x) - 1)) = some true) (he : wrap64 (rd d x) = g)
    (hv : ∀ w1, Kd.C (Kd.int .u8) w1 A0 l0.length l0 → Calls Try.prog 25 #[.slice A0 l0.length c0, .agg (u8s d)] w1 fun e w' => e = .returned (.bool true) ∧ Below w1.heap.size w1 w') :
    Calls Try.prog 41 #[.slice A0 l0.length c0, .agg (u8s d), .int .i64 x, .int .i64 g] w fun e w' => e = .returned (.tuple #[.int .i64 0, .int .i64 0]) ∧ Below w.heap.size w w' := by
  have HR0 := Aside0.mk hr0
  have HC0 := Aside0.mk hc0
  have HW := Aside0.mk hw
  have HG := Aside0.mk hg
  have HI := Aside0.mk (info_u8 d hd)
  have HV := Aside0.mk hv
  have HB0 := Aside0.mk (blk_new w (.cells (u8s d) 35))
  have HD8 := Aside0.mk (show x < (d.length : Int) by omega)
  have hx8 : x < 8 := by omega
  obtain ⟨AD, e, _⟩ := Kd.at_int hr0 x h0 h1
  cases e
  clear hd h8 hr0 hc0 hv hw hg
  have hbd : (wrap64 (rd d x) == g) = true := by simp [he]
  have HE := Aside0.mk he
  clear he
  replace h0 := eq_true h0
  replace h1 := eq_true h1
  replace hx8 := eq_true hx8
  go_enter Try.func41, Try.ntmps41
  go_wp2_with (first | (go_at_call 25; refine (HV.out _ ?sz).mono ?_; (case sz => repeat (first | exact HR0.out | (with_reducible refine Kd.C_alloc ?_ _) | (with_reducible refine Kd.C_drewN ?_ _) | (with_reducible refine Kd.C_drew ?_))); rintro e w1 ⟨rfl, hbel⟩; have HBEL := Aside0.mk hbel; clear hbel; have HC1 := Aside0.mk (blk_below HB0.out HBEL.out); have HW1 := Aside0.mk ((below_alloc (Below.refl w.heap.size w) _).trans (HBEL.out.mono (by simp))); have HR1 := Aside0.mk (Kd.C_below HR0.out HW1.out); have HI1 := Aside0.mk HI.out; obtain ⟨_, e, hcs⟩ := Kd.at_int HR1.out x (of_eq_true h0) (of_eq_true h1); cases e; have hcd := blk_u8 HC1.out x (of_eq_true h0) HD8.out) | (refine wpList_load_row rfl 35 (.tmp 5) rfl w.heap.size rfl 35 (u8s d) (0, 0) _ HB0.out Try.underlying35 rfl HI.out ?_) | (go_at_call 52; refine (spec_l01Wheel.calls _ c0 l0 x true _ HR1.out HC0.out HW.out).mono ?_; rintro e w' ⟨rfl, ⟨nd, rfl⟩⟩) | (go_at_call 57; refine (spec_l00In.calls _ _ _ true _ HG.out).mono ?_; rintro e w' ⟨rfl, ⟨nd2, rfl⟩⟩))
  go_ret2
  exact ⟨rfl, by repeat (first | exact HW1.out | refine pw_below_drewN ?_ _)⟩
def turnZ (l d : List Int) (x g : Int) : Int := if wrap64 (g - wrap64 (rd d x)) < 0 then wrap64 (wrap64 (g - wrap64 (rd d x)) + wrap64 (rd l x)) else wrap64 (g - wrap64 (rd d x))
theorem nextS_turn (k : Nat) (p : Int) (hd : d.length = 8) (h8 : l0.length ≤ 8) (hr0 : Kd.C (Kd.int .u8) w A0 l0.length l0) (hc0 : l0.length ≤ c0) (hw : spec_l01Wheel.f l0 x = some true) (h0 : 0 ≤ x) (h1 : x < (l0.length : Int)) (hg : spec_l00In.f g 0 (wrap64 (wrap64 (rd l0 x) - 1)) = some true) (he : ¬ wrap64 (rd d x) = g) (hp : spec_l01Place.f k l0 x = some p)
    (hv : ∀ w1, Kd.C (Kd.int .u8) w1 A0 l0.length l0 → Calls Try.prog 25 #[.slice A0 l0.length c0, .agg (u8s d)] w1 fun e w' => e = .returned (.bool true) ∧ Below w1.heap.size w1 w') :
    Calls Try.prog 41 #[.slice A0 l0.length c0, .agg (u8s d), .int .i64 x, .int .i64 g] w fun e w' => e = .returned (.tuple #[.int .i64 (wrap64 (wrap64 (turnZ l0 d x g * p) - valZ (l0.take x.toNat) d)), .int .i64 0]) ∧ Below w.heap.size w w' := by
  have HR0 := Aside0.mk hr0
  have HC0 := Aside0.mk hc0
  have HW := Aside0.mk hw
  have HG := Aside0.mk hg
  have HP := Aside0.mk hp
  have HI := Aside0.mk (info_u8 d hd)
  have HV := Aside0.mk hv
  have HB0 := Aside0.mk (blk_new w (.cells (u8s d) 35))
  obtain ⟨d0, d1, d2, d3, d4, d5, d6, d7, ed⟩ := list8 hd
  have HU := Aside0.mk (show u8s d = #[.int .u8 d0, .int .u8 d1, .int .u8 d2, .int .u8 d3, .int .u8 d4, .int .u8 d5, .int .u8 d6, .int .u8 d7] by rw [ed]; rfl)
  clear ed
  have HDD := Aside0.mk hd
  have HL8 := Aside0.mk h8
  have HD8 := Aside0.mk (show x < (d.length : Int) by omega)
  have hx8 : x < 8 := by omega
  obtain ⟨AD, e, _⟩ := Kd.at_int hr0 x h0 h1
  cases e
  obtain ⟨i06, hi06, _, hsz6, _⟩ := info_parts info5
  obtain ⟨hcut6, hA6, hC6⟩ := print_take_of (P := Try.prog) (Value.int .u8) 0 24 5 .i64 Try.underlying24 hi06 hsz6 (some AD) c0 l0 x h0 (by omega) hc0
  have HA6 := Aside0.mk hA6
  have HC6 := Aside0.mk hC6
  clear hA6 hC6 hi06 hsz6
  clear hd h8 hr0 hc0 hv hw hg hp
  have hbd : (wrap64 (rd d x) == g) = false := by simp [he]
  have HE := Aside0.mk he
  clear he
  replace h0 := eq_true h0
  replace h1 := eq_true h1
  replace hx8 := eq_true hx8
  go_enter Try.func41, Try.ntmps41
  go_wp2_with (first | (go_at_call 25; refine (HV.out _ ?sz).mono ?_; (case sz => repeat (first | exact HR0.out | (with_reducible refine Kd.C_alloc ?_ _) | (with_reducible refine Kd.C_drewN ?_ _) | (with_reducible refine Kd.C_drew ?_))); rintro e w1 ⟨rfl, hbel⟩; have HBEL := Aside0.mk hbel; clear hbel; have HC1 := Aside0.mk (blk_below HB0.out HBEL.out); have HW1 := Aside0.mk ((below_alloc (Below.refl w.heap.size w) _).trans (HBEL.out.mono (by simp))); have HR1 := Aside0.mk (Kd.C_below HR0.out HW1.out); have HI1 := Aside0.mk HI.out; obtain ⟨_, e, hcs⟩ := Kd.at_int HR1.out x (of_eq_true h0) (of_eq_true h1); cases e; have hcd := blk_u8 HC1.out x (of_eq_true h0) HD8.out) | (refine wpList_load_row rfl 35 (.tmp 5) rfl w.heap.size rfl 35 (u8s d) (0, 0) _ HB0.out Try.underlying35 rfl HI.out ?_) | (go_at_call 52; refine (spec_l01Wheel.calls _ c0 l0 x true _ HR1.out HC0.out HW.out).mono ?_; rintro e w' ⟨rfl, ⟨nd, rfl⟩⟩) | (go_at_call 57; refine (spec_l00In.calls _ _ _ true _ HG.out).mono ?_; rintro e w' ⟨rfl, ⟨nd2, rfl⟩⟩) | (go_at_call 53; refine (spec_l01Place.calls k _ c0 l0 x p _ (by repeat (first | exact HR1.out | (with_reducible refine Kd.C_drewN ?_ _))) HC0.out HP.out).mono ?_; rintro e w' ⟨rfl, ⟨nd3, rfl⟩⟩))
  all_goals rename_i hcase _ _
  all_goals (have ht : turnZ l0 d x g = turnZ l0 d x g := rfl; conv at ht => { rhs; unfold turnZ }; (first | rw [if_pos hcase] at ht | rw [if_neg (by omega)] at ht); have HT := Aside0.mk ht; clear ht)
  all_goals (have hb := HC1.out; have hd0 := blk_cell hb 0; have hd1 := blk_cell hb 1; have hd2 := blk_cell hb 2; have hd3 := blk_cell hb 3; have hd4 := blk_cell hb 4; have hd5 := blk_cell hb 5; have hd6 := blk_cell hb 6; have hd7 := blk_cell hb 7; rw [HU.out] at hd0 hd1 hd2 hd3 hd4 hd5 hd6 hd7; simp only [List.getElem?_toArray, List.getElem?_cons_zero, List.getElem?_cons_succ] at hd0 hd1 hd2 hd3 hd4 hd5 hd6 hd7; clear hb; have HA := Aside0.mk (HA6.out _ (Kd.reads_of_C HR1.out)))
  all_goals go_region_with (first | (go_at_call 62; rw [← List.length_take, ← HU.out]; refine (l01Value_list _ c0 (l0.take x.toNat) d HDD.out ?h8 _ ?hc ?hcap).mono ?_; (case h8 => rw [List.length_take]; have := HL8.out; omega); (case hcap => exact HC6.out); (case hc => repeat (first | exact Kd.C_of_reads (h1 := fun _ => rfl) HA.out | (with_reducible refine Kd.C_drewN ?_ _) | (with_reducible refine Kd.C_drew ?_))); rintro e w5 ⟨rfl, hb5⟩; have HB5 := Aside0.mk hb5; clear hb5))
  all_goals go_wp2
  all_goals rw [HT.out]
  all_goals go_ret2
  all_goals refine ⟨by (go_simp; simp only [i64_w]), by repeat (first | exact (pw_below_drewN HW1.out _).trans (HB5.out.mono (by have := HW1.out.size; simpa using this)) | refine pw_below_drewN ?_ _ | refine below_drew1 ?_)⟩
theorem nextI_no (hd : d.length = 8) (hr0 : Kd.C (Kd.int .u8) w A0 l0.length l0) (hc0 : l0.length ≤ c0)
    (hv : ∀ w1, Kd.C (Kd.int .u8) w1 A0 l0.length l0 → Calls Try.prog 27 #[.slice A0 l0.length c0, .agg (u8s d)] w1 fun e w' => e = .returned (.bool false) ∧ Below w1.heap.size w1 w') :
    Calls Try.prog 42 #[.slice A0 l0.length c0, .agg (u8s d), .int .i64 x, .int .i64 g] w fun e w' => e = .returned (.tuple #[.int .i64 0, .int .i64 1]) ∧ Below w.heap.size w w' := by
  have HR0 := Aside0.mk hr0
  have HC0 := Aside0.mk hc0
  have HI := Aside0.mk (info_u8 d hd)
  have HV := Aside0.mk hv
  have HB0 := Aside0.mk (blk_new w (.cells (u8s d) 35))
  clear hd hr0 hc0 hv
  go_enter Try.func42, Try.ntmps42
  go_wp2_with (first | (go_at_call 27; refine (HV.out _ ?sz).mono ?_; (case sz => repeat (first | exact HR0.out | (with_reducible refine Kd.C_alloc ?_ _) | (with_reducible refine Kd.C_drewN ?_ _) | (with_reducible refine Kd.C_drew ?_))); rintro e w1 ⟨rfl, hbel⟩; have HBEL := Aside0.mk hbel; clear hbel; have HC1 := Aside0.mk (blk_below HB0.out HBEL.out); have HW1 := Aside0.mk ((below_alloc (Below.refl w.heap.size w) _).trans (HBEL.out.mono (by simp)))) | (refine wpList_load_row rfl 35 (.tmp 5) rfl w.heap.size rfl 35 (u8s d) (0, 0) _ HB0.out Try.underlying35 rfl HI.out ?_))
  go_ret2
  exact ⟨rfl, HW1.out⟩
theorem nextI_digit (hd : d.length = 8) (hr0 : Kd.C (Kd.int .u8) w A0 l0.length l0) (hc0 : l0.length ≤ c0) (hg : impl_Stack_hasDigit.f l0 x g = some false)
    (hv : ∀ w1, Kd.C (Kd.int .u8) w1 A0 l0.length l0 → Calls Try.prog 27 #[.slice A0 l0.length c0, .agg (u8s d)] w1 fun e w' => e = .returned (.bool true) ∧ Below w1.heap.size w1 w') :
    Calls Try.prog 42 #[.slice A0 l0.length c0, .agg (u8s d), .int .i64 x, .int .i64 g] w fun e w' => e = .returned (.tuple #[.int .i64 0, .int .i64 2]) ∧ Below w.heap.size w w' := by
  have HR0 := Aside0.mk hr0
  have HC0 := Aside0.mk hc0
  have HG := Aside0.mk hg
  have HI := Aside0.mk (info_u8 d hd)
  have HV := Aside0.mk hv
  have HB0 := Aside0.mk (blk_new w (.cells (u8s d) 35))
  clear hd hr0 hc0 hv hg
  go_enter Try.func42, Try.ntmps42
  go_wp2_with (first | (go_at_call 27; refine (HV.out _ ?sz).mono ?_; (case sz => repeat (first | exact HR0.out | (with_reducible refine Kd.C_alloc ?_ _) | (with_reducible refine Kd.C_drewN ?_ _) | (with_reducible refine Kd.C_drew ?_))); rintro e w1 ⟨rfl, hbel⟩; have HBEL := Aside0.mk hbel; clear hbel; have HC1 := Aside0.mk (blk_below HB0.out HBEL.out); have HW1 := Aside0.mk ((below_alloc (Below.refl w.heap.size w) _).trans (HBEL.out.mono (by simp))); have HR1 := Aside0.mk (Kd.C_below HR0.out HW1.out)) | (refine wpList_load_row rfl 35 (.tmp 5) rfl w.heap.size rfl 35 (u8s d) (0, 0) _ HB0.out Try.underlying35 rfl HI.out ?_) | (go_at_call 59; refine (impl_Stack_hasDigit.calls A0 c0 l0 x g false _ HR1.out HC0.out HG.out).mono ?_; rintro e w' ⟨rfl, ⟨nd, rfl⟩⟩))
  go_ret2
  exact ⟨rfl, by repeat (first | exact HW1.out | refine pw_below_drewN ?_ _)⟩
theorem nextI_equal (hd : d.length = 8) (h8 : l0.length ≤ 8) (hr0 : Kd.C (Kd.int .u8) w A0 l0.length l0) (hc0 : l0.length ≤ c0) (hg : impl_Stack_hasDigit.f l0 x g = some true) (h0 : 0 ≤ x) (h1 : x < (l0.length : Int)) (he : wrap64 (rd d x) = g)
    (hv : ∀ w1, Kd.C (Kd.int .u8) w1 A0 l0.length l0 → Calls Try.prog 27 #[.slice A0 l0.length c0, .agg (u8s d)] w1 fun e w' => e = .returned (.bool true) ∧ Below w1.heap.size w1 w') :
    Calls Try.prog 42 #[.slice A0 l0.length c0, .agg (u8s d), .int .i64 x, .int .i64 g] w fun e w' => e = .returned (.tuple #[.int .i64 0, .int .i64 0]) ∧ Below w.heap.size w w' := by
  have HR0 := Aside0.mk hr0
  have HC0 := Aside0.mk hc0
  have HG := Aside0.mk hg
  have HI := Aside0.mk (info_u8 d hd)
  have HV := Aside0.mk hv
  have HB0 := Aside0.mk (blk_new w (.cells (u8s d) 35))
  have HD8 := Aside0.mk (show x < (d.length : Int) by omega)
  have hx8 : x < 8 := by omega
  have hbd : (wrap64 (rd d x) == g) = true := by simp [he]
  have HE := Aside0.mk he
  clear he hd h8 hr0 hc0 hv hg
  replace h0 := eq_true h0
  replace h1 := eq_true h1
  replace hx8 := eq_true hx8
  go_enter Try.func42, Try.ntmps42
  go_wp2_with (first | (go_at_call 27; refine (HV.out _ ?sz).mono ?_; (case sz => repeat (first | exact HR0.out | (with_reducible refine Kd.C_alloc ?_ _) | (with_reducible refine Kd.C_drewN ?_ _) | (with_reducible refine Kd.C_drew ?_))); rintro e w1 ⟨rfl, hbel⟩; have HBEL := Aside0.mk hbel; clear hbel; have HC1 := Aside0.mk (blk_below HB0.out HBEL.out); have HW1 := Aside0.mk ((below_alloc (Below.refl w.heap.size w) _).trans (HBEL.out.mono (by simp))); have HR1 := Aside0.mk (Kd.C_below HR0.out HW1.out); have hcd := blk_u8 HC1.out x (of_eq_true h0) HD8.out) | (refine wpList_load_row rfl 35 (.tmp 5) rfl w.heap.size rfl 35 (u8s d) (0, 0) _ HB0.out Try.underlying35 rfl HI.out ?_) | (go_at_call 59; refine (impl_Stack_hasDigit.calls A0 c0 l0 x g true _ HR1.out HC0.out HG.out).mono ?_; rintro e w' ⟨rfl, ⟨nd, rfl⟩⟩))
  go_ret2
  exact ⟨rfl, by repeat (first | exact HW1.out | refine pw_below_drewN ?_ _)⟩
theorem nextI_turn (k : Nat) (p r1 r2 : Int) (d0 d1 d2 d3 d4 d5 d6 d7 : Int) (ed : d = [d0, d1, d2, d3, d4, d5, d6, d7]) (hd : d.length = 8) (h8 : l0.length ≤ 8) (hr0 : Kd.C (Kd.int .u8) w A0 l0.length l0) (hc0 : l0.length ≤ c0) (hg : impl_Stack_hasDigit.f l0 x g = some true) (h0 : 0 ≤ x) (h1 : x < (l0.length : Int)) (he : ¬ wrap64 (rd d x) = g)
    (hp : impl_Stack_place.f k l0 x = some p) (hnz : ¬ wrap64 (p * wrap64 (rd l0 x)) = 0) (hwr : impl_wrapped.f (wrap64 (wrap64 (g * p) - Int.tmod (valZ l0 d) (wrap64 (p * wrap64 (rd l0 x))))) (wrap64 (p * wrap64 (rd l0 x))) = some (r1, r2))
    (hv : ∀ w1, Kd.C (Kd.int .u8) w1 A0 l0.length l0 → Calls Try.prog 27 #[.slice A0 l0.length c0, .agg (u8s d)] w1 fun e w' => e = .returned (.bool true) ∧ Below w1.heap.size w1 w') :
    Calls Try.prog 42 #[.slice A0 l0.length c0, .agg (u8s d), .int .i64 x, .int .i64 g] w fun e w' => e = .returned (.tuple #[.int .i64 r1, .int .i64 0]) ∧ Below w.heap.size w w' := by
  have HR0 := Aside0.mk hr0
  have HC0 := Aside0.mk hc0
  have HG := Aside0.mk hg
  have HP := Aside0.mk hp
  have HWR := Aside0.mk hwr
  have HI := Aside0.mk (info_u8 d hd)
  have HV := Aside0.mk hv
  have HB0 := Aside0.mk (blk_new w (.cells (u8s d) 35))
  have HD8 := Aside0.mk (show x < (d.length : Int) by omega)
  have hx8 : x < 8 := by omega
  have hbd : (wrap64 (rd d x) == g) = false := by simp [he]
  have hnb : (wrap64 (p * wrap64 (rd l0 x)) == 0) = false := by simp [hnz]
  have HE := Aside0.mk he
  have HVAL := Aside0.mk (show impl_Stack_value.f l0 d0 d1 d2 d3 d4 d5 d6 d7 = some (valZ l0 d) by unfold impl_Stack_value.f; rw [if_pos h8, ed])
  have HU := Aside0.mk (show u8s d = #[.int .u8 d0, .int .u8 d1, .int .u8 d2, .int .u8 d3, .int .u8 d4, .int .u8 d5, .int .u8 d6, .int .u8 d7] by rw [ed]; rfl)
  obtain ⟨AD, e, _⟩ := Kd.at_int hr0 x h0 h1
  cases e
  clear ed he hd h8 hr0 hc0 hv hg hp hwr
  replace h0 := eq_true h0
  replace h1 := eq_true h1
  replace hx8 := eq_true hx8
  go_enter Try.func42, Try.ntmps42
  go_wp2_with (first | (go_at_call 27; refine (HV.out _ ?sz).mono ?_; (case sz => repeat (first | exact HR0.out | (with_reducible refine Kd.C_alloc ?_ _) | (with_reducible refine Kd.C_drewN ?_ _) | (with_reducible refine Kd.C_drew ?_))); rintro e w1 ⟨rfl, hbel⟩; have HBEL := Aside0.mk hbel; clear hbel; have HC1 := Aside0.mk (blk_below HB0.out HBEL.out); have HW1 := Aside0.mk ((below_alloc (Below.refl w.heap.size w) _).trans (HBEL.out.mono (by simp))); have HR1 := Aside0.mk (Kd.C_below HR0.out HW1.out); have hcd := blk_u8 HC1.out x (of_eq_true h0) HD8.out) | (refine wpList_load_row rfl 35 (.tmp 5) rfl w.heap.size rfl 35 (u8s d) (0, 0) _ HB0.out Try.underlying35 rfl HI.out ?_) | (go_at_call 59; refine (impl_Stack_hasDigit.calls _ c0 l0 x g true _ HR1.out HC0.out HG.out).mono ?_; rintro e w' ⟨rfl, ⟨nd, rfl⟩⟩) | (go_at_call 55; refine (impl_Stack_place.calls k _ c0 l0 x p _ (by repeat (first | exact HR1.out | (with_reducible refine Kd.C_drewN ?_ _))) HC0.out HP.out).mono ?_; rintro e w2 ⟨rfl, hb2⟩; have HW2 := Aside0.mk ((pw_below_drewN HW1.out nd).trans (hb2.mono (by have := HW1.out.size; simpa using this))); have HC2 := Aside0.mk (blk_below (blk_drewN HC1.out nd) hb2); clear hb2; have HR2 := Aside0.mk (Kd.C_below HR0.out HW2.out); obtain ⟨_, e, hcs2⟩ := Kd.at_int HR2.out x (of_eq_true h0) (of_eq_true h1); cases e) | (refine wpList_load_row rfl 35 (.tmp 5) rfl w.heap.size rfl 35 (u8s d) (0, 0) _ HC2.out Try.underlying35 rfl HI.out ?_) | (go_at_call 63; rw [HU.out]; refine (impl_Stack_value.calls _ c0 l0 d0 d1 d2 d3 d4 d5 d6 d7 (valZ l0 d) _ HR2.out HC0.out HVAL.out).mono ?_; rintro e w3 ⟨rfl, hb3⟩; have HW3 := Aside0.mk (HW2.out.trans (hb3.mono (by have := HW2.out.size; simpa using this))); clear hb3) | (go_at_call 65; refine (impl_wrapped.calls _ _ r1 r2 _ HWR.out).mono ?_; rintro e w' ⟨rfl, ⟨nd9, rfl⟩⟩))
  go_ret2
  exact ⟨rfl, by repeat (first | exact HW3.out | refine pw_below_drewN ?_ _)⟩
end
def spec_NextWith.f (k : Nat) (l0 : List Int) (a1_0 : Int) (a1_1 : Int) (a1_2 : Int) (a1_3 : Int) (a1_4 : Int) (a1_5 : Int) (a1_6 : Int) (a1_7 : Int) (a2 : Int) (a3 : Int) : Option (Int × Int) := (spec_ValidDigits.f k l0 a1_0 a1_1 a1_2 a1_3 a1_4 a1_5 a1_6 a1_7).bind fun v => if v = true then (if l0.length ≤ 8 then ((spec_l01Wheel.f l0 a2).bind fun b => if b = true then (if 0 ≤ a2 then (if a2 < (l0.length : Int) then ((spec_l00In.f a3 0 (wrap64 (wrap64 (rd l0 a2) - 1))).bind fun c => if c = true then (if wrap64 (rd [a1_0, a1_1, a1_2, a1_3, a1_4, a1_5, a1_6, a1_7] a2) = a3 then some (0, 0) else ((spec_l01Place.f k l0 a2).bind fun p => some (wrap64 (wrap64 (turnZ l0 [a1_0, a1_1, a1_2, a1_3, a1_4, a1_5, a1_6, a1_7] a2 a3 * p) - valZ (l0.take a2.toNat) [a1_0, a1_1, a1_2, a1_3, a1_4, a1_5, a1_6, a1_7]), 0))) else some (0, 2)) else none) else none) else some (0, 2)) else none) else some (0, 1)
theorem spec_NextWith.mono : ∀ l0 a1_0 a1_1 a1_2 a1_3 a1_4 a1_5 a1_6 a1_7 a2 a3 k, LeO (spec_NextWith.f k l0 a1_0 a1_1 a1_2 a1_3 a1_4 a1_5 a1_6 a1_7 a2 a3) (spec_NextWith.f (k + 1) l0 a1_0 a1_1 a1_2 a1_3 a1_4 a1_5 a1_6 a1_7 a2 a3) := by
  intro l0 a1_0 a1_1 a1_2 a1_3 a1_4 a1_5 a1_6 a1_7 a2 a3 k
  unfold spec_NextWith.f
  repeat' first
      | (with_reducible exact spec_ValidDigits.mono _ _ _ _ _ _ _ _ _ _)
      | (with_reducible exact spec_l01Place.mono _ _ _)
      | (with_reducible exact LeO.refl _)
      | (with_reducible exact LeO.none _)
      | (with_reducible refine LeO.ite ?_ ?_)
      | (with_reducible refine LeO.bind ?_ (fun _ => ?_))
theorem spec_NextWith.calls (k : Nat) (A0 : Option Addr) (c0 : Nat) (l0 : List Int) (a1_0 : Int) (a1_1 : Int) (a1_2 : Int) (a1_3 : Int) (a1_4 : Int) (a1_5 : Int) (a1_6 : Int) (a1_7 : Int) (a2 : Int) (a3 : Int) (r1 : Int) (r2 : Int) (w : World) (hr0 : Kd.C (Kd.int .u8) w A0 l0.length l0) (hc0 : l0.length ≤ c0) (h : spec_NextWith.f k l0 a1_0 a1_1 a1_2 a1_3 a1_4 a1_5 a1_6 a1_7 a2 a3 = some (r1, r2)) :
    Calls Try.prog 41 #[.slice A0 l0.length c0, .agg #[.int .u8 a1_0, .int .u8 a1_1, .int .u8 a1_2, .int .u8 a1_3, .int .u8 a1_4, .int .u8 a1_5, .int .u8 a1_6, .int .u8 a1_7], .int .i64 a2, .int .i64 a3] w fun e w' => e = .returned (.tuple #[.int .i64 r1, .int .i64 r2]) ∧ Below w.heap.size w w' := by
  unfold spec_NextWith.f at h
  replace h := Option.bind_eq_some_iff.mp h
  obtain ⟨v, hv, h⟩ := h
  have hv' := fun w1 hr1 => spec_ValidDigits.calls k A0 c0 l0 a1_0 a1_1 a1_2 a1_3 a1_4 a1_5 a1_6 a1_7 v w1 hr1 hc0 hv
  cases v with
  | false =>
    rw [if_neg (by decide)] at h
    injection h with h
    obtain ⟨rfl, rfl⟩ := Prod.mk.inj h
    exact nextS_no A0 c0 l0 [a1_0, a1_1, a1_2, a1_3, a1_4, a1_5, a1_6, a1_7] rfl a2 a3 w hr0 hc0 hv'
  | true =>
    rw [if_pos rfl] at h
    split at h
    · rename_i h8
      replace h := Option.bind_eq_some_iff.mp h
      obtain ⟨b, hb, h⟩ := h
      cases b with
      | false =>
        rw [if_neg (by decide)] at h
        injection h with h
        obtain ⟨rfl, rfl⟩ := Prod.mk.inj h
        exact nextS_wheel A0 c0 l0 [a1_0, a1_1, a1_2, a1_3, a1_4, a1_5, a1_6, a1_7] a2 a3 w rfl hr0 hc0 hb hv'
      | true =>
        rw [if_pos rfl] at h
        split at h
        · rename_i p0
          split at h
          · rename_i p1
            replace h := Option.bind_eq_some_iff.mp h
            obtain ⟨c, hc, h⟩ := h
            cases c with
            | false =>
              rw [if_neg (by decide)] at h
              injection h with h
              obtain ⟨rfl, rfl⟩ := Prod.mk.inj h
              exact nextS_digit A0 c0 l0 [a1_0, a1_1, a1_2, a1_3, a1_4, a1_5, a1_6, a1_7] a2 a3 w rfl hr0 hc0 hb p0 p1 hc hv'
            | true =>
              rw [if_pos rfl] at h
              split at h
              · rename_i he
                injection h with h
                obtain ⟨rfl, rfl⟩ := Prod.mk.inj h
                exact nextS_equal A0 c0 l0 [a1_0, a1_1, a1_2, a1_3, a1_4, a1_5, a1_6, a1_7] a2 a3 w rfl h8 hr0 hc0 hb p0 p1 hc he hv'
              · rename_i he
                replace h := Option.bind_eq_some_iff.mp h
                obtain ⟨p, hp, h⟩ := h
                injection h with h
                obtain ⟨rfl, rfl⟩ := Prod.mk.inj h
                exact nextS_turn A0 c0 l0 [a1_0, a1_1, a1_2, a1_3, a1_4, a1_5, a1_6, a1_7] a2 a3 w k p rfl h8 hr0 hc0 hb p0 p1 hc he hp hv'
          · cases h
        · cases h
    · cases h
def impl_NextWith.f (k : Nat) (l0 : List Int) (a1_0 : Int) (a1_1 : Int) (a1_2 : Int) (a1_3 : Int) (a1_4 : Int) (a1_5 : Int) (a1_6 : Int) (a1_7 : Int) (a2 : Int) (a3 : Int) : Option (Int × Int) := (impl_ValidDigits.f l0 a1_0 a1_1 a1_2 a1_3 a1_4 a1_5 a1_6 a1_7).bind fun v => if v = true then (if l0.length ≤ 8 then ((impl_Stack_hasDigit.f l0 a2 a3).bind fun b => if b = true then (if 0 ≤ a2 then (if a2 < (l0.length : Int) then (if wrap64 (rd [a1_0, a1_1, a1_2, a1_3, a1_4, a1_5, a1_6, a1_7] a2) = a3 then some (0, 0) else ((impl_Stack_place.f k l0 a2).bind fun p => if wrap64 (p * wrap64 (rd l0 a2)) = 0 then none else ((impl_wrapped.f (wrap64 (wrap64 (a3 * p) - Int.tmod (valZ l0 [a1_0, a1_1, a1_2, a1_3, a1_4, a1_5, a1_6, a1_7]) (wrap64 (p * wrap64 (rd l0 a2))))) (wrap64 (p * wrap64 (rd l0 a2)))).bind fun r => some (r.1, 0)))) else none) else none) else some (0, 2)) else none) else some (0, 1)
theorem impl_NextWith.mono : ∀ l0 a1_0 a1_1 a1_2 a1_3 a1_4 a1_5 a1_6 a1_7 a2 a3 k, LeO (impl_NextWith.f k l0 a1_0 a1_1 a1_2 a1_3 a1_4 a1_5 a1_6 a1_7 a2 a3) (impl_NextWith.f (k + 1) l0 a1_0 a1_1 a1_2 a1_3 a1_4 a1_5 a1_6 a1_7 a2 a3) := by
  intro l0 a1_0 a1_1 a1_2 a1_3 a1_4 a1_5 a1_6 a1_7 a2 a3 k
  unfold impl_NextWith.f
  repeat' first
      | (with_reducible exact impl_Stack_place.mono _ _ _)
      | (with_reducible exact LeO.refl _)
      | (with_reducible exact LeO.none _)
      | (with_reducible refine LeO.ite ?_ ?_)
      | (with_reducible refine LeO.bind ?_ (fun _ => ?_))
theorem impl_NextWith.calls (k : Nat) (A0 : Option Addr) (c0 : Nat) (l0 : List Int) (a1_0 : Int) (a1_1 : Int) (a1_2 : Int) (a1_3 : Int) (a1_4 : Int) (a1_5 : Int) (a1_6 : Int) (a1_7 : Int) (a2 : Int) (a3 : Int) (r1 : Int) (r2 : Int) (w : World) (hr0 : Kd.C (Kd.int .u8) w A0 l0.length l0) (hc0 : l0.length ≤ c0) (h : impl_NextWith.f k l0 a1_0 a1_1 a1_2 a1_3 a1_4 a1_5 a1_6 a1_7 a2 a3 = some (r1, r2)) :
    Calls Try.prog 42 #[.slice A0 l0.length c0, .agg #[.int .u8 a1_0, .int .u8 a1_1, .int .u8 a1_2, .int .u8 a1_3, .int .u8 a1_4, .int .u8 a1_5, .int .u8 a1_6, .int .u8 a1_7], .int .i64 a2, .int .i64 a3] w fun e w' => e = .returned (.tuple #[.int .i64 r1, .int .i64 r2]) ∧ Below w.heap.size w w' := by
  unfold impl_NextWith.f at h
  replace h := Option.bind_eq_some_iff.mp h
  obtain ⟨v, hv, h⟩ := h
  have hv' := fun w1 hr1 => impl_ValidDigits.calls A0 c0 l0 a1_0 a1_1 a1_2 a1_3 a1_4 a1_5 a1_6 a1_7 v w1 hr1 hc0 hv
  cases v with
  | false =>
    rw [if_neg (by decide)] at h
    injection h with h
    obtain ⟨rfl, rfl⟩ := Prod.mk.inj h
    exact nextI_no A0 c0 l0 [a1_0, a1_1, a1_2, a1_3, a1_4, a1_5, a1_6, a1_7] a2 a3 w rfl hr0 hc0 hv'
  | true =>
    rw [if_pos rfl] at h
    split at h
    · rename_i h8
      replace h := Option.bind_eq_some_iff.mp h
      obtain ⟨b, hb, h⟩ := h
      cases b with
      | false =>
        rw [if_neg (by decide)] at h
        injection h with h
        obtain ⟨rfl, rfl⟩ := Prod.mk.inj h
        exact nextI_digit A0 c0 l0 [a1_0, a1_1, a1_2, a1_3, a1_4, a1_5, a1_6, a1_7] a2 a3 w rfl hr0 hc0 hb hv'
      | true =>
        rw [if_pos rfl] at h
        split at h
        · rename_i p0
          split at h
          · rename_i p1
            split at h
            · rename_i he
              injection h with h
              obtain ⟨rfl, rfl⟩ := Prod.mk.inj h
              exact nextI_equal A0 c0 l0 [a1_0, a1_1, a1_2, a1_3, a1_4, a1_5, a1_6, a1_7] a2 a3 w rfl h8 hr0 hc0 hb p0 p1 he hv'
            · rename_i he
              replace h := Option.bind_eq_some_iff.mp h
              obtain ⟨p, hp, h⟩ := h
              split at h
              · cases h
              · rename_i hnz
                replace h := Option.bind_eq_some_iff.mp h
                obtain ⟨⟨q1, q2⟩, hq, h⟩ := h
                injection h with h
                obtain ⟨rfl, rfl⟩ := Prod.mk.inj h
                exact nextI_turn A0 c0 l0 [a1_0, a1_1, a1_2, a1_3, a1_4, a1_5, a1_6, a1_7] a2 a3 w k p q1 q2 a1_0 a1_1 a1_2 a1_3 a1_4 a1_5 a1_6 a1_7 rfl rfl h8 hr0 hc0 hb p0 p1 he hp hnz hq hv'
          · cases h
        · cases h
    · cases h
end Go.Proofs.Ytmmplpflbflekaa.P
