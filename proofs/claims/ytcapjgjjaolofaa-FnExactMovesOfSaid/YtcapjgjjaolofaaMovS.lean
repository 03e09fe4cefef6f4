/- Contracts of functions that the print does not take: MovesOf, as the reference goes it. -/
import Derived.Test.YtcapjgjjaolofaaPartsA
import Derived.Test.YtcapjgjjaolofaaMovE
import Derived.Test.YtcapjgjjaolofaaPx17
import Derived.IntWalk
namespace Go.Proofs.Ytcapjgjjaolofaa.P
open Go.RowKit Go.Proofs.YtcapjgjjaolofaaW.PrintWords Go.Proofs.YtcapjgjjaolofaaW.PrintLast Go.Proofs.YtcapjgjjaolofaaW.PrintMore
set_option linter.unusedVariables false
set_option linter.unusedSimpArgs false
/-- How often the first wheels move, as the reference reckons it. -/
def mvS (k : Nat) (l : List Int) (V n : Int) : Nat → Option (List Int)
  | 0 => some [0, 0, 0, 0, 0, 0, 0, 0]
  | i + 1 => (mvS k l V n i).bind fun o => (spec_l01Place.f k l (i : Int)).bind fun p => (spec_l01Down.f (wrap64 (V + n)) p).bind fun a => (spec_l01Down.f V p).bind fun b => some (o.set i (wrap64 (a - b)))
theorem mvS_len (k : Nat) (l : List Int) (V n : Int) (i : Nat) (o : List Int) (h : mvS k l V n i = some o) : o.length = 8 := by
  induction i generalizing o with
  | zero =>
    obtain rfl := Option.some.inj h
    rfl
  | succ i ih =>
    simp only [mvS, Option.bind_eq_some_iff] at h
    obtain ⟨o', h1, p, h2, a, h3, b, h4, h5⟩ := h
    obtain rfl := Option.some.inj h5
    rw [List.length_set]
    exact ih o' h1
theorem mvS_next (k : Nat) (l : List Int) (V n : Int) (i j : Nat) (r : List Int) (h : mvS k l V n (i + 1 + j) = some r) : ∃ r', mvS k l V n (i + 1) = some r' := by
  induction j generalizing r with
  | zero => exact ⟨r, h⟩
  | succ j ih =>
    simp only [mvS, Nat.add_succ, Option.bind_eq_some_iff] at h
    obtain ⟨o', h1, _⟩ := h
    exact ih o' h1
/-- The three boxes behind the entry. -/
abbrev mW (w : World) (d : List Int) : World := ((w.alloc (.cells (u8s d) 29)).alloc (.cells #[.int .i64 0, .int .i64 0, .int .i64 0, .int .i64 0, .int .i64 0, .int .i64 0, .int .i64 0, .int .i64 0] 24)).alloc (.cells #[.int .i64 0, .int .i64 0, .int .i64 0, .int .i64 0, .int .i64 0, .int .i64 0, .int .i64 0, .int .i64 0] 24)
theorem mW_facts (w : World) (d : List Int) : (mW w d).heap[w.heap.size]? = some (.cells (u8s d) 29 (0, 0)) ∧ (mW w d).heap[w.heap.size + 1]? = some (.cells (i64s [0, 0, 0, 0, 0, 0, 0, 0]) 24 (0, 0)) ∧ (mW w d).heap[w.heap.size + 1 + 1]? = some (.cells (i64s [0, 0, 0, 0, 0, 0, 0, 0]) 24 (0, 0)) ∧ Below w.heap.size w (mW w d) := by
  refine ⟨blk_alloc (blk_alloc (blk_new w _) _) _, ?_, ?_, below_alloc (below_alloc (below_alloc (Below.refl _ _) _) _) _⟩
  · have := blk_alloc (blk_new (w.alloc (.cells (u8s d) 29)) (.cells #[.int .i64 0, .int .i64 0, .int .i64 0, .int .i64 0, .int .i64 0, .int .i64 0, .int .i64 0, .int .i64 0] 24)) (.cells #[.int .i64 0, .int .i64 0, .int .i64 0, .int .i64 0, .int .i64 0, .int .i64 0, .int .i64 0, .int .i64 0] 24)
    rw [World.size_alloc] at this
    exact this
  · have := blk_new ((w.alloc (.cells (u8s d) 29)).alloc (.cells #[.int .i64 0, .int .i64 0, .int .i64 0, .int .i64 0, .int .i64 0, .int .i64 0, .int .i64 0, .int .i64 0] 24)) (.cells #[.int .i64 0, .int .i64 0, .int .i64 0, .int .i64 0, .int .i64 0, .int .i64 0, .int .i64 0, .int .i64 0] 24)
    rw [World.size_alloc, World.size_alloc] at this
    exact this
set_option maxHeartbeats 8000000 in
set_option maxRecDepth 100000 in
theorem movS_yes (k : Nat) (A0 : Option Addr) (c0 : Nat) (l d : List Int) (hd : d.length = 8) (n V : Int) (R : List Int)
    (hv : ∀ W, Kd.C (Kd.int .u8) W A0 l.length l → Calls Try.prog 42 #[.slice A0 l.length c0, .agg (u8s d)] W fun e w' => e = .returned (.bool true) ∧ Below W.heap.size W w')
    (hval : ∀ W, Kd.C (Kd.int .u8) W A0 l.length l → Calls Try.prog 44 #[.slice A0 l.length c0, .agg (u8s d)] W fun e w' => e = .returned (.int .i64 V) ∧ Below W.heap.size W w')
    (hn : spec_l01Count.f n = some true) (h8 : l.length ≤ 8) (hR : mvS k l V n l.length = some R) (w : World) (hr0 : Kd.C (Kd.int .u8) w A0 l.length l) (hc0 : l.length ≤ c0) :
    Calls Try.prog 12 #[.slice A0 l.length c0, .agg (u8s d), .int .i64 n] w fun e w' => e = .returned (.tuple #[.agg (i64s R), .int .i64 0]) ∧ Below w.heap.size w w' := by
  obtain ⟨f1, f2, f3, f4⟩ := mW_facts w d
  have HV := Aside0.mk hv
  have HVAL := Aside0.mk hval
  have HN := Aside0.mk hn
  have H8 := Aside0.mk h8
  have HR0 := Aside0.mk hr0
  have HC0 := Aside0.mk hc0
  have HR := Aside0.mk hR
  have HI := Aside0.mk (info_u8 d hd)
  have F1 := Aside0.mk f1
  have F2 := Aside0.mk f2
  have F3 := Aside0.mk f3
  have F4 := Aside0.mk f4
  clear hv hval hn h8 hr0 hc0 f1 f2 f3 f4 hR hd
  go_enter Try.func12, Try.ntmps12
  go_wp2_with (first | (refine wpList_load_row rfl 29 (.tmp 4) rfl w.heap.size rfl 29 (u8s d) (0, 0) _ F1.out Try.underlying29 rfl HI.out ?_) | (go_at_call 42; refine (HV.out _ (Kd.C_below HR0.out F4.out)).mono ?_; rintro e w1 ⟨rfl, hbel⟩; have HB1 := Aside0.mk hbel; clear hbel; have G1 := Aside0.mk (blk_below F1.out HB1.out); have G2 := Aside0.mk (blk_below F2.out HB1.out); have G3 := Aside0.mk (blk_below F3.out HB1.out); have GB := Aside0.mk (below_step F4.out HB1.out)) | (go_at_call 43; refine (spec_l01Count.calls _ _ _ HN.out).mono ?_; rintro e w' ⟨rfl, ⟨nd, rfl⟩⟩) | (refine wpList_load_row rfl 29 (.tmp 4) rfl w.heap.size rfl 29 (u8s d) (0, 0) _ (by repeat (first | exact G1.out | (with_reducible refine blk_drewN ?_ _))) Try.underlying29 rfl HI.out ?_) | (go_at_call 44; refine (HVAL.out _ (Kd.C_below HR0.out (pw_below_drewN GB.out _))).mono ?_; rintro e w2 ⟨rfl, hbel⟩; have HB2 := Aside0.mk hbel; clear hbel; have K2 := Aside0.mk (blk_below (blk_drewN G2.out _) HB2.out); have K3 := Aside0.mk (blk_below (blk_drewN G3.out _) HB2.out); have KB := Aside0.mk (below_step (pw_below_drewN GB.out _) HB2.out)))
  go_loopg [10] l.length (fun kq v10 w' => ∃ (x : Nat) (y : Int) (o : List Int), v10 = .int .i64 y ∧ Aside0 (x + kq = l.length ∧ mvS k l V n x = some o ∧ y = (x : Int)) ∧ Aside0 (Below w.heap.size w w') ∧ Aside0 (w'.heap[w.heap.size + 1]? = some (.cells (i64s [0, 0, 0, 0, 0, 0, 0, 0]) 24 (0, 0))) ∧ Aside0 (w'.heap[w.heap.size + 1 + 1]? = some (.cells (i64s o) 24 (0, 0))))
  case atStart => exact ⟨0, 0, [0, 0, 0, 0, 0, 0, 0, 0], rfl, ⟨by omega, rfl, rfl⟩, KB, K2, K3⟩
  case round =>
    clear KB K2 K3 G1 G2 G3 GB HB1 HB2 F1 F2 F3 F4
    obtain ⟨x, y, o, rfl, HX, HW, P2, P3⟩ := hrel
    cases gk with
    | zero =>
      have hx := HX.out
      have hb : decide (y < (l.length : Int)) = false := decide_eq_false (by omega)
      have e : o = R := by
        have h := hx.2.1
        rw [show x = l.length by omega, HR.out] at h
        exact (Option.some.inj h).symm
      subst e
      have HO := Aside0.mk (mvS_len k l V n _ o HR.out)
      have HIZ := Aside0.mk (info_a64 o HO.out)
      have HS := Aside0.mk (show (i64s [0, 0, 0, 0, 0, 0, 0, 0]).size = (i64s o).size by rw [i64s_size, i64s_size, HO.out]; rfl)
      clear hx HX
      go_wp2_with (first | (refine wpList_load_row rfl 24 (.tmp 8) rfl (w.heap.size + 1 + 1) rfl 24 (i64s o) (0, 0) _ P3.out Try.underlying24 rfl HIZ.out ?_) | (refine wpList_store_row rfl 24 (.tmp 6) (.tmp 45) rfl (w.heap.size + 1) (i64s o) rfl rfl 24 (i64s [0, 0, 0, 0, 0, 0, 0, 0]) P2.out HIZ.out HS.out (i64s_one _) ?_))
      refine bodyPost_ret (v := .tuple #[.agg (i64s o), .int .i64 0]) ?r rfl ⟨rfl, ?b⟩
      case r => exact results_list (vs := [.agg (i64s o), .int .i64 0]) rfl (by simp) (.cell (w.heap.size + 1) 24 (i64s o) (0, 0) _ rfl (setRow_heap _ _ (i64s [0, 0, 0, 0, 0, 0, 0, 0]) _ _ _ P2.out) Try.underlying24 rfl HIZ.out (.tmp .nil))
      case b => exact below_setRow HW.out (by omega) _
    | succ k1 =>
      have hx := HX.out
      have h8 := H8.out
      have hy := hx.2.2
      have q1 : y < (l.length : Int) := by omega
      have p1 : 0 ≤ y := by omega
      have q8 : y < 8 := by omega
      have hb : decide (y < (l.length : Int)) = true := decide_eq_true q1
      obtain ⟨r', hr'⟩ := mvS_next k l V n x k1 R (by rw [show x + 1 + k1 = l.length by omega]; exact HR.out)
      have hr2 := hr'
      simp only [mvS, Option.bind_eq_some_iff] at hr2
      obtain ⟨o', h1, p, hp, a, ha, b, hb4, h5⟩ := hr2
      have e : o' = o := Option.some.inj (h1.symm.trans hx.2.1)
      subst e
      have e5 := Option.some.inj h5
      have HO := Aside0.mk (mvS_len k l V n x o' h1)
      rw [← hy] at hp
      have HP := Aside0.mk hp
      have HA := Aside0.mk ha
      have HB := Aside0.mk hb4
      have hco := blk_i64 P3.out y p1 (by have := HO.out; omega)
      have hfo := blk_frozen P3.out y.toNat
      have hw : wrap64 (y + 1) = y + 1 := Go.IntWalk.wrap64_in _ (by omega)
      have HN := Aside0.mk (show wrap64 (y + 1) = ((x + 1 : Nat) : Int) ∧ x + 1 + k1 = l.length ∧ mvS k l V n (x + 1) = some (o'.set y.toNat (wrap64 (a - b))) by
        refine ⟨by rw [hw]; omega, by omega, ?_⟩
        rw [hr', ← e5, show y.toNat = x by omega])
      clear hx HX hw h1 hp ha hb4 h5 e5 hr' h8 hy
      replace p1 := eq_true p1
      replace q1 := eq_true q1
      replace q8 := eq_true q8
      go_wp2_with (first | (go_at_call 45; refine (spec_l01Place.calls k _ _ _ _ _ _ ?s1 HC0.out HP.out).mono ?_; (case s1 => repeat (first | exact Kd.C_below HR0.out HW.out | (with_reducible refine Kd.C_drewN ?_ _) | (with_reducible refine Kd.C_drew ?_))); rintro e w' ⟨rfl, ⟨nd, rfl⟩⟩) | (go_at_call 46; (first | (with_reducible refine (spec_l01Down.calls _ _ _ _ HA.out).mono ?_) | (with_reducible refine (spec_l01Down.calls _ _ _ _ HB.out).mono ?_)); rintro e w' ⟨rfl, ⟨nd, rfl⟩⟩))
      go_roundg k1
      case measure => omega
      case rel => exact ⟨x + 1, wrap64 (y + 1), _, rfl, ⟨HN.out.2.1, HN.out.2.2, HN.out.1⟩, ⟨below_set (by repeat (first | exact HW.out | apply pw_below_drewN | apply below_drew1)) (by omega)⟩, ⟨blk_far (by repeat (first | exact P2.out | (with_reducible refine blk_drew ?_) | (with_reducible refine blk_drewN ?_ _))) (show w.heap.size + 1 ≠ w.heap.size + 1 + 1 by omega) _⟩, ⟨blk_i64_set (by repeat (first | exact P3.out | (with_reducible refine blk_drew ?_) | (with_reducible refine blk_drewN ?_ _))) _ _⟩⟩
set_option maxHeartbeats 8000000 in
set_option maxRecDepth 100000 in
theorem movS_no (k : Nat) (A0 : Option Addr) (c0 : Nat) (l d : List Int) (hd : d.length = 8) (n : Int)
    (hv : ∀ W, Kd.C (Kd.int .u8) W A0 l.length l → Calls Try.prog 42 #[.slice A0 l.length c0, .agg (u8s d)] W fun e w' => e = .returned (.bool false) ∧ Below W.heap.size W w')
    (w : World) (hr0 : Kd.C (Kd.int .u8) w A0 l.length l) (hc0 : l.length ≤ c0) :
    Calls Try.prog 12 #[.slice A0 l.length c0, .agg (u8s d), .int .i64 n] w fun e w' => e = .returned (.tuple #[.agg (i64s [0, 0, 0, 0, 0, 0, 0, 0]), .int .i64 1]) ∧ Below w.heap.size w w' := by
  obtain ⟨f1, f2, f3, f4⟩ := mW_facts w d
  have HV := Aside0.mk hv
  have HR0 := Aside0.mk hr0
  have HC0 := Aside0.mk hc0
  have HI := Aside0.mk (info_u8 d hd)
  have F1 := Aside0.mk f1
  have F2 := Aside0.mk f2
  have F3 := Aside0.mk f3
  have F4 := Aside0.mk f4
  clear hv hr0 hc0 f1 f2 f3 f4 hd
  have HIZ := Aside0.mk (info_a64 [0, 0, 0, 0, 0, 0, 0, 0] rfl)
  go_enter Try.func12, Try.ntmps12
  go_wp2_with (first | (refine wpList_load_row rfl 29 (.tmp 4) rfl w.heap.size rfl 29 (u8s d) (0, 0) _ F1.out Try.underlying29 rfl HI.out ?_) | (go_at_call 42; refine (HV.out _ (Kd.C_below HR0.out F4.out)).mono ?_; rintro e w1 ⟨rfl, hbel⟩; have HB1 := Aside0.mk hbel; clear hbel; have G1 := Aside0.mk (blk_below F1.out HB1.out); have G2 := Aside0.mk (blk_below F2.out HB1.out); have G3 := Aside0.mk (blk_below F3.out HB1.out); have GB := Aside0.mk (below_step F4.out HB1.out)) | (refine wpList_load_row rfl 24 (.tmp 8) rfl (w.heap.size + 1 + 1) rfl 24 (i64s [0, 0, 0, 0, 0, 0, 0, 0]) (0, 0) _ (by repeat (first | exact G3.out | (with_reducible refine blk_drewN ?_ _))) Try.underlying24 rfl HIZ.out ?_) | (refine wpList_store_row rfl 24 (.tmp 6) (.tmp 17) rfl (w.heap.size + 1) (i64s [0, 0, 0, 0, 0, 0, 0, 0]) rfl rfl 24 (i64s [0, 0, 0, 0, 0, 0, 0, 0]) ?hs HIZ.out rfl (i64s_one _) ?_; (case hs => repeat (first | exact G2.out | (with_reducible refine blk_drewN ?_ _)))))
  refine bodyPost_ret (v := .tuple #[.agg (i64s [0, 0, 0, 0, 0, 0, 0, 0]), .int .i64 1]) ?r rfl ⟨rfl, ?b⟩
  case r => exact results_list (vs := [.agg (i64s [0, 0, 0, 0, 0, 0, 0, 0]), .int .i64 1]) rfl (by simp) (.cell (w.heap.size + 1) 24 (i64s [0, 0, 0, 0, 0, 0, 0, 0]) (0, 0) _ rfl (setRow_heap _ _ (i64s [0, 0, 0, 0, 0, 0, 0, 0]) _ _ _ (by repeat (first | exact G2.out | (with_reducible refine blk_drewN ?_ _)))) Try.underlying24 rfl HIZ.out (.tmp .nil))
  case b => exact below_setRow (by repeat (first | exact GB.out | apply pw_below_drewN)) (by omega) _
set_option maxHeartbeats 8000000 in
set_option maxRecDepth 100000 in
theorem movS_range (k : Nat) (A0 : Option Addr) (c0 : Nat) (l d : List Int) (hd : d.length = 8) (n : Int)
    (hv : ∀ W, Kd.C (Kd.int .u8) W A0 l.length l → Calls Try.prog 42 #[.slice A0 l.length c0, .agg (u8s d)] W fun e w' => e = .returned (.bool true) ∧ Below W.heap.size W w')
    (hn : spec_l01Count.f n = some false) (w : World) (hr0 : Kd.C (Kd.int .u8) w A0 l.length l) (hc0 : l.length ≤ c0) :
    Calls Try.prog 12 #[.slice A0 l.length c0, .agg (u8s d), .int .i64 n] w fun e w' => e = .returned (.tuple #[.agg (i64s [0, 0, 0, 0, 0, 0, 0, 0]), .int .i64 2]) ∧ Below w.heap.size w w' := by
  obtain ⟨f1, f2, f3, f4⟩ := mW_facts w d
  have HV := Aside0.mk hv
  have HN := Aside0.mk hn
  have HR0 := Aside0.mk hr0
  have HC0 := Aside0.mk hc0
  have HI := Aside0.mk (info_u8 d hd)
  have F1 := Aside0.mk f1
  have F2 := Aside0.mk f2
  have F3 := Aside0.mk f3
  have F4 := Aside0.mk f4
  clear hv hn hr0 hc0 f1 f2 f3 f4 hd
  have HIZ := Aside0.mk (info_a64 [0, 0, 0, 0, 0, 0, 0, 0] rfl)
  go_enter Try.func12, Try.ntmps12
  go_wp2_with (first | (refine wpList_load_row rfl 29 (.tmp 4) rfl w.heap.size rfl 29 (u8s d) (0, 0) _ F1.out Try.underlying29 rfl HI.out ?_) | (go_at_call 42; refine (HV.out _ (Kd.C_below HR0.out F4.out)).mono ?_; rintro e w1 ⟨rfl, hbel⟩; have HB1 := Aside0.mk hbel; clear hbel; have G1 := Aside0.mk (blk_below F1.out HB1.out); have G2 := Aside0.mk (blk_below F2.out HB1.out); have G3 := Aside0.mk (blk_below F3.out HB1.out); have GB := Aside0.mk (below_step F4.out HB1.out)) | (go_at_call 43; refine (spec_l01Count.calls _ _ _ HN.out).mono ?_; rintro e w' ⟨rfl, ⟨nd, rfl⟩⟩) | (refine wpList_load_row rfl 24 (.tmp 8) rfl (w.heap.size + 1 + 1) rfl 24 (i64s [0, 0, 0, 0, 0, 0, 0, 0]) (0, 0) _ (by repeat (first | exact G3.out | (with_reducible refine blk_drewN ?_ _))) Try.underlying24 rfl HIZ.out ?_) | (refine wpList_store_row rfl 24 (.tmp 6) (.tmp 21) rfl (w.heap.size + 1) (i64s [0, 0, 0, 0, 0, 0, 0, 0]) rfl rfl 24 (i64s [0, 0, 0, 0, 0, 0, 0, 0]) ?hs HIZ.out rfl (i64s_one _) ?_; (case hs => repeat (first | exact G2.out | (with_reducible refine blk_drewN ?_ _)))))
  refine bodyPost_ret (v := .tuple #[.agg (i64s [0, 0, 0, 0, 0, 0, 0, 0]), .int .i64 2]) ?r rfl ⟨rfl, ?b⟩
  case r => exact results_list (vs := [.agg (i64s [0, 0, 0, 0, 0, 0, 0, 0]), .int .i64 2]) rfl (by simp) (.cell (w.heap.size + 1) 24 (i64s [0, 0, 0, 0, 0, 0, 0, 0]) (0, 0) _ rfl (setRow_heap _ _ (i64s [0, 0, 0, 0, 0, 0, 0, 0]) _ _ _ (by repeat (first | exact G2.out | (with_reducible refine blk_drewN ?_ _)))) Try.underlying24 rfl HIZ.out (.tmp .nil))
  case b => exact below_setRow (by repeat (first | exact GB.out | apply pw_below_drewN)) (by omega) _
end Go.Proofs.Ytcapjgjjaolofaa.P
