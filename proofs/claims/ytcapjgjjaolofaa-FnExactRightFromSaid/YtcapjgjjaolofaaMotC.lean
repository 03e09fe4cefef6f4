/- Contracts that the print does not take: the reference's questions of a motion. -/
import Derived.Test.YtcapjgjjaolofaaPx10
import Derived.Test.YtcapjgjjaolofaaPx9
import Derived.Test.YtcapjgjjaolofaaMotB
namespace Go.Proofs.Ytcapjgjjaolofaa.P
open Go.RowKit Go.Proofs.YtcapjgjjaolofaaW.PrintWords Go.Proofs.YtcapjgjjaolofaaW.PrintLast Go.Proofs.YtcapjgjjaolofaaW.PrintMore
set_option linter.unusedVariables false
set_option linter.unusedSimpArgs false
/-- Is a motion right, where v says it of its stack? -/
def okM (v : Bool) (l : List Int) (js : List S88) : Bool := v && (decide ((js.length : Int) = wrap64 ((l.length : Int) - 1)) && js.all (fun j => okS j.f0 j.f1))
set_option maxHeartbeats 4000000 in
set_option maxRecDepth 100000 in
theorem l02Span_calls (k : Nat) (g : Nat) (A0 : Option Addr) (c0 : Nat) (l : List Int) (A1 : Option Addr) (c1 : Nat) (js : List S88) (s c : Int) (hs : spec_SizeOf.f k l = some (s, c)) (W : World) (hg : MotP W g A0 c0 l A1 c1 js)
    (hr0 : Kd.C (Kd.int .u8) W A0 l.length l) (hc0 : l.length ≤ c0) :
    Calls Try.prog 70 #[.pointer (some ⟨g, 0, none⟩)] W fun e w' => e = .returned (.int .i64 (wrap64 (s * 1000))) ∧ Drawn0 W w' := by
  have HS := Aside0.mk hs
  have HR0 := Aside0.mk hr0
  have HC0 := Aside0.mk hc0
  have hcA : W.cell? ⟨g, 0, none⟩ = some (.slice A0 l.length c0) := (blk_cell hg 0).trans rfl
  clear hs hr0 hc0 hg
  go_enter Try.func70, Try.ntmps70
  go_wp2_with (go_at_call 99; refine (spec_SizeOf.calls k _ _ _ _ _ _ HR0.out HC0.out HS.out).mono ?_; rintro e w' ⟨rfl, ⟨nd, rfl⟩⟩)
  go_ret
  exact ⟨rfl, by repeat (first | exact Drawn0.refl _ | apply Drawn0.step)⟩
def spec_ValidMotion.f (k : Nat) (l0_0 : List Int) (l0_1 : List S88) : Option Bool := (spec_ValidStack.f k l0_0).bind fun v => some (okM v l0_0 l0_1)
theorem spec_ValidMotion.mono : ∀ a b k, LeO (spec_ValidMotion.f k a b) (spec_ValidMotion.f (k + 1) a b) := by
  intro a b k
  unfold spec_ValidMotion.f
  repeat' first
      | (with_reducible exact spec_ValidStack.mono _ _)
      | (with_reducible exact LeO.refl _)
      | (with_reducible refine LeO.bind ?_ (fun _ => ?_))
set_option maxHeartbeats 4000000 in
set_option maxRecDepth 100000 in
theorem spec_ValidMotion.calls (k : Nat) (A0_0 : Option Addr) (c0_0 : Nat) (l0_0 : List Int) (A0_1 : Option Addr) (c0_1 : Nat) (l0_1 : List S88) (r : Bool) (w : World) (hr0_0 : Kd.C (Kd.int .u8) w A0_0 l0_0.length l0_0) (hc0_0 : l0_0.length ≤ c0_0) (hr0_1 : Kd.C k88 w A0_1 l0_1.length l0_1) (hc0_1 : l0_1.length ≤ c0_1) (h : spec_ValidMotion.f k l0_0 l0_1 = some r) :
    Calls Try.prog 27 #[.agg #[.slice A0_0 l0_0.length c0_0, .slice A0_1 l0_1.length c0_1]] w fun e w' => e = .returned (.bool r) ∧ Below w.heap.size w w' := by
  unfold spec_ValidMotion.f at h
  replace h := Option.bind_eq_some_iff.mp h
  obtain ⟨v, hv, h⟩ := h
  obtain rfl := Option.some.inj h
  have HV := Aside0.mk hv
  have HR0 := Aside0.mk hr0_0
  have HR1 := Aside0.mk hr0_1
  have HC0 := Aside0.mk hc0_0
  have HBK := Aside0.mk (show MotP (w.alloc (.cells #[.slice A0_0 l0_0.length c0_0, .slice A0_1 l0_1.length c0_1] 45)) w.heap.size A0_0 c0_0 l0_0 A0_1 c0_1 l0_1 from blk_new w _)
  clear h hv hr0_0 hr0_1 hc0_0
  go_enter Try.func27, Try.ntmps27
  go_wp2_with (go_at_call 66; refine (l02Ok_calls k w.heap.size A0_0 c0_0 l0_0 A0_1 c0_1 l0_1 v HV.out _ HBK.out (Kd.C_alloc HR0.out _) HC0.out (Kd.C_alloc HR1.out _)).mono ?_; rintro e w' ⟨rfl, hbel⟩; have HBEL := Aside0.mk hbel; clear hbel)
  go_ret
  exact ⟨rfl, (below_alloc (Below.refl w.heap.size w) _).trans (HBEL.out.mono (by simp))⟩
def spec_SpanOf.f (k : Nat) (l0_0 : List Int) (l0_1 : List S88) : Option (Int × Int) := (spec_ValidStack.f k l0_0).bind fun v => if okM v l0_0 l0_1 = true then (spec_SizeOf.f k l0_0).bind fun s => some (wrap64 (s.1 * 1000), 0) else some (0, 1)
theorem spec_SpanOf.mono : ∀ a b k, LeO (spec_SpanOf.f k a b) (spec_SpanOf.f (k + 1) a b) := by
  intro a b k
  unfold spec_SpanOf.f
  repeat' first
      | (with_reducible exact spec_ValidStack.mono _ _)
      | (with_reducible exact spec_SizeOf.mono _ _)
      | (with_reducible exact LeO.refl _)
      | (with_reducible refine LeO.ite ?_ ?_)
      | (with_reducible refine LeO.bind ?_ (fun _ => ?_))
set_option maxHeartbeats 4000000 in
set_option maxRecDepth 100000 in
theorem spec_SpanOf.calls (k : Nat) (A0_0 : Option Addr) (c0_0 : Nat) (l0_0 : List Int) (A0_1 : Option Addr) (c0_1 : Nat) (l0_1 : List S88) (r1 r2 : Int) (w : World) (hr0_0 : Kd.C (Kd.int .u8) w A0_0 l0_0.length l0_0) (hc0_0 : l0_0.length ≤ c0_0) (hr0_1 : Kd.C k88 w A0_1 l0_1.length l0_1) (hc0_1 : l0_1.length ≤ c0_1) (h : spec_SpanOf.f k l0_0 l0_1 = some (r1, r2)) :
    Calls Try.prog 29 #[.agg #[.slice A0_0 l0_0.length c0_0, .slice A0_1 l0_1.length c0_1]] w fun e w' => e = .returned (.tuple #[.int .i64 r1, .int .i64 r2]) ∧ Below w.heap.size w w' := by
  unfold spec_SpanOf.f at h
  replace h := Option.bind_eq_some_iff.mp h
  obtain ⟨v, hv, h⟩ := h
  have HV := Aside0.mk hv
  have HR0 := Aside0.mk hr0_0
  have HR1 := Aside0.mk hr0_1
  have HC0 := Aside0.mk hc0_0
  have HBK := Aside0.mk (show MotP (w.alloc (.cells #[.slice A0_0 l0_0.length c0_0, .slice A0_1 l0_1.length c0_1] 45)) w.heap.size A0_0 c0_0 l0_0 A0_1 c0_1 l0_1 from blk_new w _)
  clear hv hr0_0 hr0_1 hc0_0
  by_cases hm : okM v l0_0 l0_1 = true
  · rw [if_pos hm] at h
    replace h := Option.bind_eq_some_iff.mp h
    obtain ⟨⟨s, c⟩, hs, h⟩ := h
    simp only [Option.some.injEq, Prod.mk.injEq] at h
    obtain ⟨rfl, rfl⟩ := h
    have HM := Aside0.mk hm
    have HS := Aside0.mk hs
    clear hm hs
    go_enter Try.func29, Try.ntmps29
    go_wp2_with (first | (go_at_call 66; refine (l02Ok_calls k w.heap.size A0_0 c0_0 l0_0 A0_1 c0_1 l0_1 v HV.out _ HBK.out (Kd.C_alloc HR0.out _) HC0.out (Kd.C_alloc HR1.out _)).mono ?_; rintro e w1 ⟨rfl, hbel⟩; have HBEL := Aside0.mk hbel; clear hbel; have HG1 := Aside0.mk (show MotP w1 w.heap.size A0_0 c0_0 l0_0 A0_1 c0_1 l0_1 from blk_below HBK.out HBEL.out); have hm2 : okM v l0_0 l0_1 = true := HM.out; unfold okM at hm2; rw [hm2]; clear hm2) | (go_at_call 70; refine (l02Span_calls k w.heap.size A0_0 c0_0 l0_0 A0_1 c0_1 l0_1 s c HS.out _ HG1.out (Kd.C_below (Kd.C_alloc HR0.out _) HBEL.out) HC0.out).mono ?_; rintro e w2 ⟨rfl, ⟨nd, rfl⟩⟩))
    go_ret2
    exact ⟨rfl, pw_below_drewN ((below_alloc (Below.refl w.heap.size w) _).trans (HBEL.out.mono (by simp))) _⟩
  · rw [if_neg hm] at h
    simp only [Option.some.injEq, Prod.mk.injEq] at h
    obtain ⟨rfl, rfl⟩ := h
    have HM := Aside0.mk (show okM v l0_0 l0_1 = false by simpa using hm)
    clear hm
    go_enter Try.func29, Try.ntmps29
    go_wp2_with (first | (go_at_call 66; refine (l02Ok_calls k w.heap.size A0_0 c0_0 l0_0 A0_1 c0_1 l0_1 v HV.out _ HBK.out (Kd.C_alloc HR0.out _) HC0.out (Kd.C_alloc HR1.out _)).mono ?_; rintro e w1 ⟨rfl, hbel⟩; have HBEL := Aside0.mk hbel; clear hbel; have hm2 : okM v l0_0 l0_1 = false := HM.out; unfold okM at hm2; rw [hm2]; clear hm2))
    go_ret2
    exact ⟨rfl, (below_alloc (Below.refl w.heap.size w) _).trans (HBEL.out.mono (by simp))⟩
set_option maxHeartbeats 4000000 in
set_option maxRecDepth 100000 in
theorem l02Asked_no (k : Nat) (g : Nat) (A0 : Option Addr) (c0 : Nat) (l : List Int) (A1 : Option Addr) (c1 : Nat) (js : List S88) (v : Bool) (hv : spec_ValidStack.f k l = some v) (hm : okM v l js = false) (turn : Int) (W : World) (hg : MotP W g A0 c0 l A1 c1 js)
    (hr0 : Kd.C (Kd.int .u8) W A0 l.length l) (hc0 : l.length ≤ c0) (hr1 : Kd.C k88 W A1 js.length js) :
    Calls Try.prog 72 #[.pointer (some ⟨g, 0, none⟩), .int .i64 turn] W fun e w' => e = .returned (.int .i64 1) ∧ Below W.heap.size W w' := by
  have HV := Aside0.mk hv
  have HM := Aside0.mk hm
  have HG := Aside0.mk hg
  have HR0 := Aside0.mk hr0
  have HR1 := Aside0.mk hr1
  have HC0 := Aside0.mk hc0
  clear hv hm hg hr0 hr1 hc0
  go_enter Try.func72, Try.ntmps72
  go_wp2_with (go_at_call 66; refine (l02Ok_calls k g A0 c0 l A1 c1 js v HV.out _ HG.out HR0.out HC0.out HR1.out).mono ?_; rintro e w1 ⟨rfl, hbel⟩; have HBEL := Aside0.mk hbel; clear hbel; have hm2 : okM v l js = false := HM.out; unfold okM at hm2; rw [hm2]; clear hm2)
  go_ret
  exact ⟨rfl, HBEL.out⟩
set_option maxHeartbeats 4000000 in
set_option maxRecDepth 100000 in
theorem l02Asked_yes (k : Nat) (g : Nat) (A0 : Option Addr) (c0 : Nat) (l : List Int) (A1 : Option Addr) (c1 : Nat) (js : List S88) (v : Bool) (hv : spec_ValidStack.f k l = some v) (hm : okM v l js = true) (s c : Int) (hs : spec_SizeOf.f k l = some (s, c)) (turn : Int) (t : Bool) (ht : decide (0 ≤ turn ∧ turn ≤ wrap64 (wrap64 (s * 1000) - 1)) = t) (W : World) (hg : MotP W g A0 c0 l A1 c1 js)
    (hr0 : Kd.C (Kd.int .u8) W A0 l.length l) (hc0 : l.length ≤ c0) (hr1 : Kd.C k88 W A1 js.length js) :
    Calls Try.prog 72 #[.pointer (some ⟨g, 0, none⟩), .int .i64 turn] W fun e w' => e = .returned (.int .i64 (if t = true then 0 else 2)) ∧ Below W.heap.size W w' := by
  have HV := Aside0.mk hv
  have HM := Aside0.mk hm
  have HS := Aside0.mk hs
  have HG := Aside0.mk hg
  have HR0 := Aside0.mk hr0
  have HR1 := Aside0.mk hr1
  have HC0 := Aside0.mk hc0
  have HIN := Aside0.mk (show spec_l00In.f turn 0 (wrap64 (wrap64 (s * 1000) - 1)) = some t by rw [in_fK, ht])
  clear hv hm hg hr0 hr1 hc0 hs ht
  cases t
  all_goals
    go_enter Try.func72, Try.ntmps72
    go_wp2_with (first | (go_at_call 66; refine (l02Ok_calls k g A0 c0 l A1 c1 js v HV.out _ HG.out HR0.out HC0.out HR1.out).mono ?_; rintro e w1 ⟨rfl, hbel⟩; have HBEL := Aside0.mk hbel; clear hbel; have HG1 := Aside0.mk (show MotP w1 g A0 c0 l A1 c1 js from blk_below HG.out HBEL.out); have hm2 : okM v l js = true := HM.out; unfold okM at hm2; rw [hm2]; clear hm2) | (go_at_call 70; refine (l02Span_calls k g A0 c0 l A1 c1 js s c HS.out _ HG1.out (Kd.C_below HR0.out HBEL.out) HC0.out).mono ?_; rintro e w2 ⟨rfl, ⟨nd, rfl⟩⟩) | (go_at_call 52; refine (spec_l00In.calls _ _ _ _ _ HIN.out).mono ?_; rintro e w3 ⟨rfl, ⟨nd2, rfl⟩⟩))
    go_ret
    exact ⟨rfl, by repeat (first | exact HBEL.out | apply pw_below_drewN)⟩
def spec_TurnBy.f (k : Nat) (l0_0 : List Int) (l0_1 : List S88) (turn n : Int) : Option (Int × Int × Int) := (spec_ValidStack.f k l0_0).bind fun v => if okM v l0_0 l0_1 = true then (spec_SizeOf.f k l0_0).bind fun s => (if decide (0 ≤ turn ∧ turn ≤ wrap64 (wrap64 (s.1 * 1000) - 1)) = true then (if decide (-1000000000000000 ≤ n ∧ n ≤ 1000000000000000) = true then (spec_l02Down.f (wrap64 (turn + n)) (wrap64 (s.1 * 1000))).bind fun q => some (wrap64 (wrap64 (turn + n) - wrap64 (q * wrap64 (s.1 * 1000))), q, 0) else some (0, 0, 2)) else some (0, 0, 2)) else some (0, 0, 1)
theorem spec_TurnBy.mono : ∀ a b c d k, LeO (spec_TurnBy.f k a b c d) (spec_TurnBy.f (k + 1) a b c d) := by
  intro a b c d k
  unfold spec_TurnBy.f
  repeat' first
      | (with_reducible exact spec_ValidStack.mono _ _)
      | (with_reducible exact spec_SizeOf.mono _ _)
      | (with_reducible exact LeO.refl _)
      | (with_reducible refine LeO.ite ?_ ?_)
      | (with_reducible refine LeO.bind ?_ (fun _ => ?_))
set_option maxHeartbeats 8000000 in
set_option maxRecDepth 100000 in
theorem spec_TurnBy.calls (k : Nat) (A0_0 : Option Addr) (c0_0 : Nat) (l0_0 : List Int) (A0_1 : Option Addr) (c0_1 : Nat) (l0_1 : List S88) (a1 a2 : Int) (r1 r2 r3 : Int) (w : World) (hr0_0 : Kd.C (Kd.int .u8) w A0_0 l0_0.length l0_0) (hc0_0 : l0_0.length ≤ c0_0) (hr0_1 : Kd.C k88 w A0_1 l0_1.length l0_1) (hc0_1 : l0_1.length ≤ c0_1) (h : spec_TurnBy.f k l0_0 l0_1 a1 a2 = some (r1, r2, r3)) :
    Calls Try.prog 31 #[.agg #[.slice A0_0 l0_0.length c0_0, .slice A0_1 l0_1.length c0_1], .int .i64 a1, .int .i64 a2] w fun e w' => e = .returned (.tuple #[.int .i64 r1, .int .i64 r2, .int .i64 r3]) ∧ Below w.heap.size w w' := by
  unfold spec_TurnBy.f at h
  replace h := Option.bind_eq_some_iff.mp h
  obtain ⟨v, hv, h⟩ := h
  have HV := Aside0.mk hv
  have HR0 := Aside0.mk hr0_0
  have HR1 := Aside0.mk hr0_1
  have HC0 := Aside0.mk hc0_0
  have HBK := Aside0.mk (show MotP (w.alloc (.cells #[.slice A0_0 l0_0.length c0_0, .slice A0_1 l0_1.length c0_1] 45)) w.heap.size A0_0 c0_0 l0_0 A0_1 c0_1 l0_1 from blk_new w _)
  clear hv hr0_0 hr0_1 hc0_0
  by_cases hm : okM v l0_0 l0_1 = true
  · rw [if_pos hm] at h
    replace h := Option.bind_eq_some_iff.mp h
    obtain ⟨⟨s, c⟩, hs, h⟩ := h
    have HM := Aside0.mk hm
    have HS := Aside0.mk hs
    simp only at h
    obtain ⟨t, ht⟩ : ∃ t, decide (0 ≤ a1 ∧ a1 ≤ wrap64 (wrap64 (s * 1000) - 1)) = t := ⟨_, rfl⟩
    obtain ⟨t2, ht2⟩ : ∃ t, decide (-1000000000000000 ≤ a2 ∧ a2 ≤ 1000000000000000) = t := ⟨_, rfl⟩
    rw [ht, ht2] at h
    have HT := Aside0.mk ht
    have HIN := Aside0.mk (show spec_l00In.f a2 (-1000000000000000) 1000000000000000 = some t2 by rw [in_fK, ht2])
    clear hm hs ht ht2
    cases t with
    | false =>
      rw [if_neg (by decide)] at h
      simp only [Option.some.injEq, Prod.mk.injEq] at h
      obtain ⟨rfl, rfl, rfl⟩ := h
      go_enter Try.func31, Try.ntmps31
      go_wp2_with (first | (go_at_call 72; refine (l02Asked_yes k w.heap.size A0_0 c0_0 l0_0 A0_1 c0_1 l0_1 v HV.out HM.out s c HS.out _ _ HT.out _ HBK.out (Kd.C_alloc HR0.out _) HC0.out (Kd.C_alloc HR1.out _)).mono ?_; rintro e w1 ⟨rfl, hbel⟩; have HBEL := Aside0.mk hbel; clear hbel; have HG1 := Aside0.mk (show MotP w1 w.heap.size A0_0 c0_0 l0_0 A0_1 c0_1 l0_1 from blk_below HBK.out HBEL.out); (try simp only [if_true, if_false, Bool.false_eq_true])))
      go_ret3
      exact ⟨rfl, (below_alloc (Below.refl w.heap.size w) _).trans (HBEL.out.mono (by simp))⟩
    | true =>
      rw [if_pos rfl] at h
      cases t2 with
      | false =>
        rw [if_neg (by decide)] at h
        simp only [Option.some.injEq, Prod.mk.injEq] at h
        obtain ⟨rfl, rfl, rfl⟩ := h
        go_enter Try.func31, Try.ntmps31
        go_wp2_with (first | (go_at_call 72; refine (l02Asked_yes k w.heap.size A0_0 c0_0 l0_0 A0_1 c0_1 l0_1 v HV.out HM.out s c HS.out _ _ HT.out _ HBK.out (Kd.C_alloc HR0.out _) HC0.out (Kd.C_alloc HR1.out _)).mono ?_; rintro e w1 ⟨rfl, hbel⟩; have HBEL := Aside0.mk hbel; clear hbel; have HG1 := Aside0.mk (show MotP w1 w.heap.size A0_0 c0_0 l0_0 A0_1 c0_1 l0_1 from blk_below HBK.out HBEL.out); (try simp only [if_true, if_false, Bool.false_eq_true])) | (go_at_call 52; refine (spec_l00In.calls _ _ _ _ _ HIN.out).mono ?_; rintro e w3 ⟨rfl, ⟨nd2, rfl⟩⟩))
        go_ret3
        exact ⟨rfl, by repeat (first | exact (below_alloc (Below.refl w.heap.size w) _).trans (HBEL.out.mono (by simp)) | apply pw_below_drewN)⟩
      | true =>
        rw [if_pos rfl] at h
        replace h := Option.bind_eq_some_iff.mp h
        obtain ⟨q, hq, h⟩ := h
        simp only [Option.some.injEq, Prod.mk.injEq] at h
        obtain ⟨rfl, rfl, rfl⟩ := h
        have HQ := Aside0.mk hq
        clear hq
        go_enter Try.func31, Try.ntmps31
        go_wp2_with (first | (go_at_call 72; refine (l02Asked_yes k w.heap.size A0_0 c0_0 l0_0 A0_1 c0_1 l0_1 v HV.out HM.out s c HS.out _ _ HT.out _ HBK.out (Kd.C_alloc HR0.out _) HC0.out (Kd.C_alloc HR1.out _)).mono ?_; rintro e w1 ⟨rfl, hbel⟩; have HBEL := Aside0.mk hbel; clear hbel; have HG1 := Aside0.mk (show MotP w1 w.heap.size A0_0 c0_0 l0_0 A0_1 c0_1 l0_1 from blk_below HBK.out HBEL.out); (try simp only [if_true, if_false, Bool.false_eq_true])) | (go_at_call 52; refine (spec_l00In.calls _ _ _ _ _ HIN.out).mono ?_; rintro e w3 ⟨rfl, ⟨nd2, rfl⟩⟩) | (go_at_call 70; refine (l02Span_calls k w.heap.size A0_0 c0_0 l0_0 A0_1 c0_1 l0_1 s c HS.out _ (blk_drewN HG1.out _) (Kd.C_drewN (Kd.C_below (Kd.C_alloc HR0.out _) HBEL.out) _) HC0.out).mono ?_; rintro e w4 ⟨rfl, ⟨nd3, rfl⟩⟩) | (go_at_call 73; refine (spec_l02Down.calls _ _ _ _ HQ.out).mono ?_; rintro e w5 ⟨rfl, ⟨nd4, rfl⟩⟩))
        go_ret3
        exact ⟨rfl, by repeat (first | exact (below_alloc (Below.refl w.heap.size w) _).trans (HBEL.out.mono (by simp)) | apply pw_below_drewN)⟩
  · rw [if_neg hm] at h
    simp only [Option.some.injEq, Prod.mk.injEq] at h
    obtain ⟨rfl, rfl, rfl⟩ := h
    have HM := Aside0.mk (show okM v l0_0 l0_1 = false by simpa using hm)
    clear hm
    go_enter Try.func31, Try.ntmps31
    go_wp2_with (go_at_call 72; refine (l02Asked_no k w.heap.size A0_0 c0_0 l0_0 A0_1 c0_1 l0_1 v HV.out HM.out _ _ HBK.out (Kd.C_alloc HR0.out _) HC0.out (Kd.C_alloc HR1.out _)).mono ?_; rintro e w1 ⟨rfl, hbel⟩; have HBEL := Aside0.mk hbel; clear hbel)
    go_ret3
    exact ⟨rfl, (below_alloc (Below.refl w.heap.size w) _).trans (HBEL.out.mono (by simp))⟩
end Go.Proofs.Ytcapjgjjaolofaa.P
