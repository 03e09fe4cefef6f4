/- Contracts of functions that the print does not take: RightFrom, as the program goes it. -/
import Derived.Test.YtcapjgjjaolofaaRightS
import Derived.Test.YtcapjgjjaolofaaPx19
import Derived.Test.YtcapjgjjaolofaaPx9
import Derived.Test.YtcapjgjjaolofaaPx8
import Derived.Deep.RegionHeld3
namespace Go.Proofs.Ytcapjgjjaolofaa.P
open Go.RowKit Go.Proofs.YtcapjgjjaolofaaW.PrintWords Go.Proofs.YtcapjgjjaolofaaW.PrintLast Go.Proofs.YtcapjgjjaolofaaW.PrintMore
set_option linter.unusedVariables false
set_option linter.unusedSimpArgs false
/-- A wheel's state out of the one before, as the program reckons it. -/
def stepI (l : List Int) (js : List S88) (d : List Int) (n : Nat) (s : Int × List Int) : Int × List Int :=
  let f := beyZ (rd l n) (rd_T88 js n).f0 (rd_T88 js n).f1 s.1
  let t := (impl_floor.f (wrap64 (wrap64 (rd d ((n : Int) + 1) - f) + 500)) 1000).getD 0
  let x := ((impl_wrapped.f t (wrap64 (rd l ((n : Int) + 1)))).getD (0, 0)).1
  (wrap64 (wrap64 (x * 1000) + f), s.2.set (n + 1) (x % 256))
def rgI (l : List Int) (js : List S88) (d : List Int) : Nat → Int × List Int
  | 0 => (rd d 0, [wrap64 ((rd d 0).tdiv 1000) % 256, 0, 0, 0, 0, 0, 0, 0])
  | n + 1 => stepI l js d n (rgI l js d n)
theorem rgI_len (l : List Int) (js : List S88) (d : List Int) (n : Nat) : (rgI l js d n).2.length = 8 := by
  induction n with
  | zero => rfl
  | succ n ih => simp only [rgI, stepI, List.length_set, ih]
theorem floor_some (a b : Int) (hb : ¬ b = 0) : ∃ r, impl_floor.f a b = some r := by
  unfold impl_floor.f
  rw [if_neg hb]
  split
  · exact ⟨_, rfl⟩
  · split <;> exact ⟨_, rfl⟩
theorem wrapped_some (a b : Int) (hb : ¬ b = 0) : ∃ r1 r2, impl_wrapped.f a b = some (r1, r2) := by
  obtain ⟨t, ht⟩ := floor_some a b hb
  unfold impl_wrapped.f
  rw [ht]
  exact ⟨_, _, rfl⟩
set_option maxHeartbeats 8000000 in
set_option maxRecDepth 100000 in
theorem rightI_d (A0 : Option Addr) (c0 : Nat) (l : List Int) (A1 : Option Addr) (c1 : Nat) (js : List S88) (d : List Int) (hd : d.length = 8) (hv : impl_ValidMotion.f l js = some true) (hgv : givB zeroI l d = true) (h8 : l.length ≤ 8) (h1 : 1 ≤ l.length) (hjl : js.length + 1 = l.length) (hnz : ∀ b ∈ l, 2 ≤ b ∧ b ≤ 100) (hjf : ∀ j ∈ js, ¬ wrap64 (1000 - wrap64 j.f1) = 0) (w : World) (hr0 : Kd.C (Kd.int .u8) w A0 l.length l) (hc0 : l.length ≤ c0) (hr1 : Kd.C k88 w A1 js.length js) (hc1 : js.length ≤ c1) :
    Calls Try.prog 41 #[.agg #[.slice A0 l.length c0, .slice A1 js.length c1], .agg (i64s d)] w fun e w' => e = .returned (.tuple #[.agg (u8s (rgI l js d (l.length - 1)).2), .int .i64 0]) ∧ Below w.heap.size w w' := by
  obtain ⟨f1, f2, f3, f5⟩ := gW_facts w A0 c0 l A1 c1 js d
  have HV := Aside0.mk hv
  have HR0 := Aside0.mk (show Kd.C (Kd.int .u8) (gW w A0 c0 l A1 c1 js d) A0 l.length l from Kd.C_alloc (Kd.C_alloc (Kd.C_alloc hr0 _) _) _)
  have HR1 := Aside0.mk (show Kd.C k88 (gW w A0 c0 l A1 c1 js d) A1 js.length js from Kd.C_alloc (Kd.C_alloc (Kd.C_alloc hr1 _) _) _)
  have HC0 := Aside0.mk hc0
  have HRw0 := Aside0.mk hr0
  have HRw1 := Aside0.mk hr1
  have HI := Aside0.mk (info_i64 d hd)
  have F1 := Aside0.mk f1
  have F2 := Aside0.mk f2
  have F3 := Aside0.mk f3
  have F5 := Aside0.mk f5
  have HD := Aside0.mk hd
  have HC1 := Aside0.mk hc1
  have HGV := Aside0.mk hgv
  have H8 := Aside0.mk h8
  have H1 := Aside0.mk h1
  have HJL := Aside0.mk hjl
  have HNZ := Aside0.mk hnz
  have HJF := Aside0.mk hjf
  clear hv hr0 hc0 hr1 f1 f2 f3 f5 hc1 hgv h8 h1 hjl hnz hjf hd
  go_enter Try.func41, Try.ntmps41
  go_wp2_with (first | (go_at_call 28; refine (impl_ValidMotion.calls _ _ l _ _ js _ _ HR0.out HC0.out HR1.out HC1.out HV.out).mono ?_; rintro e w1 ⟨rfl, hbel⟩; have HBEL := Aside0.mk hbel; clear hbel; have G1 := Aside0.mk (show MotP w1 w.heap.size A0 c0 l A1 c1 js from blk_below F1.out HBEL.out); have G2 := Aside0.mk (blk_below F2.out HBEL.out); have K3 := Aside0.mk (blk_below F3.out HBEL.out); have KB := Aside0.mk (below_step F5.out HBEL.out); have hcA : w1.cell? ⟨w.heap.size, 0, none⟩ = some (.slice A0 l.length c0) := (blk_cell G1.out 0).trans rfl) | (refine wpList_load_row_g (by first | rfl | (go_simp; done) | (go_simp; rfl)) 55 (.tmp 3) rfl (w.heap.size + 1) rfl 55 (i64s d) (0, 0) _ G2.out Try.underlying55 rfl HI.out ?_) | (go_at_call 77; refine (partsOK_list w.heap.size A0 c0 l A1 c1 js d HD.out _ G1.out (Kd.C_below HR0.out HBEL.out)).mono ?_; rw [HGV.out]; rintro e w2 ⟨rfl, hbel⟩; have HBEL2 := Aside0.mk hbel; clear hbel; have K1 := Aside0.mk (blk_below G1.out HBEL2.out); have K2 := Aside0.mk (blk_below G2.out HBEL2.out); have K3 := Aside0.mk (blk_below K3.out HBEL2.out); have KB := Aside0.mk (below_step KB.out HBEL2.out); have KC := Aside0.mk (Kd.C_below (Kd.C_below HR0.out HBEL.out) HBEL2.out); have KJ := Aside0.mk (Kd.C_below (Kd.C_below HR1.out HBEL.out) HBEL2.out); have KS := Aside0.mk (show w.heap.size + 3 ≤ w2.heap.size by have h1 := HBEL.out.size; have h2 := HBEL2.out.size; rw [World.size_alloc, World.size_alloc, World.size_alloc] at h1; omega); have N1 := Aside0.mk (show MotP (w2.alloc (.cells #[.int .u8 0, .int .u8 0, .int .u8 0, .int .u8 0, .int .u8 0, .int .u8 0, .int .u8 0, .int .u8 0] 29)) w.heap.size A0 c0 l A1 c1 js from blk_alloc K1.out _); have N2 := Aside0.mk (blk_alloc K2.out (.cells #[.int .u8 0, .int .u8 0, .int .u8 0, .int .u8 0, .int .u8 0, .int .u8 0, .int .u8 0, .int .u8 0] 29)); have N3 := Aside0.mk (blk_alloc K3.out (.cells #[.int .u8 0, .int .u8 0, .int .u8 0, .int .u8 0, .int .u8 0, .int .u8 0, .int .u8 0, .int .u8 0] 29)); have N4 := Aside0.mk (show (w2.alloc (.cells #[.int .u8 0, .int .u8 0, .int .u8 0, .int .u8 0, .int .u8 0, .int .u8 0, .int .u8 0, .int .u8 0] 29)).heap[w2.heap.size]? = some (.cells (u8s [0, 0, 0, 0, 0, 0, 0, 0]) 29 (0, 0)) from blk_new w2 _); have hcp := blk_i64 N2.out 0 (Int.le_refl _) (by have := HD.out; omega); have hco := blk_u8 N4.out 0 (Int.le_refl _) (by show (0 : Int) < 8; omega); have hfo := blk_frozen N4.out 0; simp only [Int.toNat_zero] at hcp hco; have N5 := Aside0.mk (blk_alloc K2.out (.cells #[.int .u8 (wrap64 ((rd d 0).tdiv 1000) % 256), .int .u8 0, .int .u8 0, .int .u8 0, .int .u8 0, .int .u8 0, .int .u8 0, .int .u8 0] 29)); have hcp2 := blk_i64 N5.out 0 (Int.le_refl _) (by have := HD.out; omega); simp only [Int.toNat_zero] at hcp2))
  have hcpZ := blk_i64 K2.out 0 (Int.le_refl _) (by have := HD.out; omega)
  simp only [Int.toNat_zero] at hcpZ
  go_region
  all_goals
    go_wp2
    have M1 := Aside0.mk (show MotP (w2.alloc (.cells #[.int .u8 (wrap64 ((rd d 0).tdiv 1000) % 256), .int .u8 0, .int .u8 0, .int .u8 0, .int .u8 0, .int .u8 0, .int .u8 0, .int .u8 0] 29)).drew w.heap.size A0 c0 l A1 c1 js from blk_drew (blk_alloc K1.out _))
    have M2 := Aside0.mk (blk_drew (blk_alloc K2.out (.cells #[.int .u8 (wrap64 ((rd d 0).tdiv 1000) % 256), .int .u8 0, .int .u8 0, .int .u8 0, .int .u8 0, .int .u8 0, .int .u8 0, .int .u8 0] 29)))
    have M3 := Aside0.mk (blk_drew (blk_alloc K3.out (.cells #[.int .u8 (wrap64 ((rd d 0).tdiv 1000) % 256), .int .u8 0, .int .u8 0, .int .u8 0, .int .u8 0, .int .u8 0, .int .u8 0, .int .u8 0] 29)))
    have M4 := Aside0.mk (show (w2.alloc (.cells #[.int .u8 (wrap64 ((rd d 0).tdiv 1000) % 256), .int .u8 0, .int .u8 0, .int .u8 0, .int .u8 0, .int .u8 0, .int .u8 0, .int .u8 0] 29)).drew.heap[w2.heap.size]? = some (.cells (u8s [wrap64 ((rd d 0).tdiv 1000) % 256, 0, 0, 0, 0, 0, 0, 0]) 29 (0, 0)) from blk_drew (blk_new w2 _))
    have MB := Aside0.mk (below_drew1 (below_alloc KB.out (.cells #[.int .u8 (wrap64 ((rd d 0).tdiv 1000) % 256), .int .u8 0, .int .u8 0, .int .u8 0, .int .u8 0, .int .u8 0, .int .u8 0, .int .u8 0] 29)))
    obtain ⟨gd, hgd⟩ : ∃ gd, gd = w2.heap.size := ⟨_, rfl⟩
    have KSd := Aside0.mk (show w.heap.size + 3 ≤ gd by have := KS.out; omega)
    rw [← hgd] at M4 ⊢
    clear KS hgd
    go_loopg [7, 8] (l.length - 1) (fun kq v7 v8 w' => ∃ (n : Nat) (x q : Int) (o : List Int), v7 = .int .i64 q ∧ v8 = .int .i64 x ∧ Aside0 (x = (n : Int) + 1 ∧ n + 1 + kq = l.length ∧ rgI l js d n = (q, o)) ∧ Aside0 (Below w.heap.size w w') ∧ Aside0 (MotP w' w.heap.size A0 c0 l A1 c1 js) ∧ Aside0 (w'.heap[w.heap.size + 1]? = some (.cells (i64s d) 55 (0, 0))) ∧ Aside0 (w'.heap[w.heap.size + 1 + 1]? = some (.cells (u8s [0, 0, 0, 0, 0, 0, 0, 0]) 29 (0, 0))) ∧ Aside0 (w'.heap[gd]? = some (.cells (u8s o) 29 (0, 0))))
    case atStart => exact ⟨0, 1, rd d 0, _, rfl, rfl, ⟨by omega, by have := H1.out; omega, rfl⟩, MB, M1, M2, M3, M4⟩
    case round =>
      clear hcA hcp hco hfo hcp2 hcpZ N1 N2 N3 N4 N5 M1 M2 M3 M4 MB K1 K2 K3 KB KC KJ
      obtain ⟨n, x, q, o, rfl, rfl, HX, HW, P1, P2, P3, P4⟩ := hrel
      have hcA : wr.cell? ⟨w.heap.size, 0, none⟩ = some (.slice A0 l.length c0) := (blk_cell P1.out 0).trans rfl
      cases gk with
      | zero =>
        have hx := HX.out
        have hb : decide (x < (l.length : Int)) = false := decide_eq_false (by omega)
        have hn : l.length - 1 = n := by omega
        have HO := Aside0.mk (show o.length = 8 by have := rgI_len l js d n; rw [hx.2.2] at this; exact this)
        have HIZ := Aside0.mk (info_u8 o HO.out)
        have HS := Aside0.mk (show (u8s [0, 0, 0, 0, 0, 0, 0, 0]).size = (u8s o).size by rw [u8s_size, u8s_size, HO.out]; rfl)
        have HR := Aside0.mk (show (rgI l js d (l.length - 1)).2 = o by rw [hn, hx.2.2])
        clear hx HX hn
        go_wp2_with (first | (refine wpList_load_row rfl 29 (.tmp 6) rfl gd rfl 29 (u8s o) (0, 0) _ P4.out Try.underlying29 rfl HIZ.out ?_) | (refine wpList_store_row rfl 29 (.tmp 4) (.tmp 63) rfl (w.heap.size + 1 + 1) (u8s o) rfl rfl 29 (u8s [0, 0, 0, 0, 0, 0, 0, 0]) P3.out HIZ.out HS.out (u8s_one _) ?_))
        rw [HR.out]
        refine bodyPost_ret (v := .tuple #[.agg (u8s o), .int .i64 0]) ?r rfl ⟨rfl, ?b⟩
        case r => exact results_list (vs := [.agg (u8s o), .int .i64 0]) rfl (by simp) (.cell (w.heap.size + 1 + 1) 29 (u8s o) (0, 0) _ rfl (setRow_heap _ _ (u8s [0, 0, 0, 0, 0, 0, 0, 0]) _ _ _ P3.out) Try.underlying29 rfl HIZ.out (.tmp .nil))
        case b => exact below_setRow HW.out (by omega) _
      | succ k1 =>
        have hx := HX.out
        have p1 : 0 ≤ x := by omega
        have q1 : x < (l.length : Int) := by omega
        have h8 := H8.out
        have q8 : x < 8 := by omega
        have hb : decide (x < (l.length : Int)) = true := decide_eq_true q1
        have hjl := HJL.out
        have hw1 : wrap64 (x - 1) = (n : Int) := by rw [hx.1, Go.IntWalk.wrap64_in _ (show -9223372036854775808 ≤ (n : Int) + 1 - 1 ∧ (n : Int) + 1 - 1 ≤ 9223372036854775807 by omega)]; omega
        have n1 : (0 : Int) ≤ (n : Int) := by omega
        have n2 : (n : Int) < (l.length : Int) := by omega
        have n3 : (n : Int) < (js.length : Int) := by omega
        have hxn : x.toNat = n + 1 := by omega
        obtain ⟨b, hbv⟩ : ∃ b, rd l (n : Int) = b := ⟨_, rfl⟩
        obtain ⟨a, hav⟩ : ∃ a, (rd_T88 js (n : Int)).f0 = a := ⟨_, rfl⟩
        obtain ⟨f, hfv⟩ : ∃ f, (rd_T88 js (n : Int)).f1 = f := ⟨_, rfl⟩
        obtain ⟨B, hBv⟩ : ∃ B, rd l x = B := ⟨_, rfl⟩
        obtain ⟨F, hFv⟩ : ∃ F, beyZ b a f q = F := ⟨_, rfl⟩
        obtain ⟨T, hT⟩ := floor_some (wrap64 (wrap64 (rd d x - F) + 500)) 1000 (by decide)
        have hbm : b ∈ l := by rw [← hbv]; simp [rd, List.getD, List.getElem?_eq_getElem (show n < l.length by omega)]
        have hBm : B ∈ l := by rw [← hBv]; simp [rd, List.getD, List.getElem?_eq_getElem (show x.toNat < l.length by omega)]
        have hfm : rd_T88 js (n : Int) ∈ js := by simp [rd_T88, List.getD, List.getElem?_eq_getElem (show n < js.length by omega)]
        have hbz : ¬ wrap64 b = 0 := by have := HNZ.out b hbm; rw [Go.IntWalk.wrap64_in _ (by omega)]; omega
        have hBz : ¬ wrap64 B = 0 := by have := HNZ.out B hBm; rw [Go.IntWalk.wrap64_in _ (by omega)]; omega
        have hfz : ¬ wrap64 (1000 - wrap64 f) = 0 := by have := HJF.out _ hfm; rw [hfv] at this; exact this
        have hz1 : (wrap64 B == 0) = false := beq_eq_false_iff_ne.mpr hBz
        have hz2 : (wrap64 B != 0) = true := bne_iff_ne.mpr hBz
        obtain ⟨X, X2, hX⟩ := wrapped_some T (wrap64 B) hBz
        have HC := Aside0.mk (And.intro hw1 (And.intro n1 (And.intro n2 (And.intro n3 (And.intro hbv (And.intro hav (And.intro hfv (And.intro hbz hfz))))))))
        have HF := Aside0.mk hFv
        have HT := Aside0.mk hT
        have HXV := Aside0.mk hX
        have PX := Aside0.mk (And.intro p1 (And.intro q1 q8))
        have HBV := Aside0.mk hBv
        have hw : wrap64 (x + 1) = x + 1 := Go.IntWalk.wrap64_in _ (by omega)
        have HO := Aside0.mk (show o.length = 8 by have := rgI_len l js d n; rw [hx.2.2] at this; exact this)
        have HN := Aside0.mk (show wrap64 (x + 1) = ((n + 1 : Nat) : Int) + 1 ∧ n + 1 + 1 + k1 = l.length ∧ rgI l js d (n + 1) = (wrap64 (wrap64 (X * 1000) + F), o.set x.toNat (X % 256)) by
          refine ⟨by rw [hw]; omega, by omega, ?_⟩
          simp only [rgI, hx.2.2, stepI]
          rw [hbv, hav, hfv, hFv, ← hx.1, hT, hBv, Option.getD_some, hX, Option.getD_some, hxn])
        clear hx HX hw hw1 n1 n2 n3 hxn hbv hav hfv hBv hFv hT hbm hBm hfm hbz hfz hX hjl h8
        replace p1 := eq_true p1
        replace q1 := eq_true q1
        replace q8 := eq_true q8
        go_wp2_with (first | (go_at_call 85; refine (beyI_calls w.heap.size A0 c0 l A1 c1 js x q (n : Int) b a f HC.out.1 HC.out.2.1 HC.out.2.2.1 HC.out.2.2.2.1 HC.out.2.2.2.2.1 HC.out.2.2.2.2.2.1 HC.out.2.2.2.2.2.2.1 HC.out.2.2.2.2.2.2.2.1 HC.out.2.2.2.2.2.2.2.2 _ P1.out (Kd.C_below HRw0.out HW.out) (Kd.C_below HRw1.out HW.out)).mono ?_; rw [HF.out]; rintro e w3 ⟨rfl, hbel⟩; have HB3 := Aside0.mk hbel; clear hbel; have J1 := Aside0.mk (show MotP w3 w.heap.size A0 c0 l A1 c1 js from blk_below P1.out HB3.out); have J2 := Aside0.mk (blk_below P2.out HB3.out); have J3 := Aside0.mk (blk_below P3.out HB3.out); have J4 := Aside0.mk (blk_below P4.out HB3.out); have JW := Aside0.mk (below_step HW.out HB3.out); have hcA3 : w3.cell? ⟨w.heap.size, 0, none⟩ = some (.slice A0 l.length c0) := (blk_cell J1.out 0).trans rfl; have hcd := blk_i64 J2.out x PX.out.1 (by have := HD.out; have := PX.out.2.2; omega); have hco := blk_u8 J4.out x PX.out.1 (by have := HO.out; have := PX.out.2.2; omega); have hfo := blk_frozen J4.out x.toNat; obtain ⟨ad, e1, hcs⟩ := Kd.at_int (Kd.C_below HRw0.out JW.out) x PX.out.1 PX.out.2.1; cases e1; rw [HBV.out] at hcs))
        go_quiet (first | (go_at_call 51; refine (impl_floor.calls _ _ _ _ HT.out).mono ?_; rintro e w' ⟨rfl, ⟨nd, rfl⟩⟩; exact ⟨rfl, _, World.drewN_drewN _ _ _⟩) | (go_at_call 75; refine (impl_wrapped.calls _ _ _ _ _ HXV.out).mono ?_; rintro e w' ⟨rfl, ⟨nd, rfl⟩⟩; exact ⟨rfl, _, World.drewN_drewN _ _ _⟩))
        go_wp2
        go_roundg k1
        case measure => omega
        case rel => exact ⟨n + 1, wrap64 (x + 1), _, _, rfl, rfl, HN, ⟨below_set (by repeat (first | exact JW.out | apply pw_below_drewN | apply below_drew1)) (by have := KSd.out; omega)⟩, ⟨blk_far (by repeat (first | exact J1.out | (with_reducible refine blk_drew ?_) | (with_reducible refine blk_drewN ?_ _))) (show w.heap.size ≠ gd by have := KSd.out; omega) _⟩, ⟨blk_far (by repeat (first | exact J2.out | (with_reducible refine blk_drew ?_) | (with_reducible refine blk_drewN ?_ _))) (show w.heap.size + 1 ≠ gd by have := KSd.out; omega) _⟩, ⟨blk_far (by repeat (first | exact J3.out | (with_reducible refine blk_drew ?_) | (with_reducible refine blk_drewN ?_ _))) (show w.heap.size + 1 + 1 ≠ gd by have := KSd.out; omega) _⟩, ⟨blk_u8_set (by repeat (first | exact J4.out | (with_reducible refine blk_drew ?_) | (with_reducible refine blk_drewN ?_ _))) _ _⟩⟩
end Go.Proofs.Ytcapjgjjaolofaa.P
