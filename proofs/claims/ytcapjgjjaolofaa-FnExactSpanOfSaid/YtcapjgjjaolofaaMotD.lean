/- Contracts that the print does not take: the program's questions of a motion. -/
import Derived.Test.YtcapjgjjaolofaaPx23
import Derived.Test.YtcapjgjjaolofaaPx10
import Derived.Test.YtcapjgjjaolofaaPx3
import Derived.Test.YtcapjgjjaolofaaMotB
namespace Go.Proofs.Ytcapjgjjaolofaa.P
open Go.RowKit Go.Proofs.YtcapjgjjaolofaaW.PrintWords Go.Proofs.YtcapjgjjaolofaaW.PrintLast Go.Proofs.YtcapjgjjaolofaaW.PrintMore
set_option linter.unusedVariables false
set_option linter.unusedSimpArgs false
theorem within_fK (a lo hi : Int) : impl_within.f a lo hi = some (decide (lo ≤ a ∧ a ≤ hi)) := by
  unfold impl_within.f
  by_cases h : lo ≤ a <;> simp [h]
set_option maxHeartbeats 4000000 in
set_option maxRecDepth 100000 in
theorem span_calls (k : Nat) (g : Nat) (A0 : Option Addr) (c0 : Nat) (l : List Int) (A1 : Option Addr) (c1 : Nat) (js : List S88) (s : Int) (hs : impl_Stack_size.f k l = some s) (W : World) (hg : MotP W g A0 c0 l A1 c1 js)
    (hr0 : Kd.C (Kd.int .u8) W A0 l.length l) (hc0 : l.length ≤ c0) :
    Calls Try.prog 71 #[.pointer (some ⟨g, 0, none⟩)] W fun e w' => e = .returned (.int .i64 (wrap64 (s * 1000))) ∧ Below W.heap.size W w' := by
  have HS := Aside0.mk hs
  have HR0 := Aside0.mk hr0
  have HC0 := Aside0.mk hc0
  have hcA : W.cell? ⟨g, 0, none⟩ = some (.slice A0 l.length c0) := (blk_cell hg 0).trans rfl
  clear hs hr0 hc0 hg
  go_enter Try.func71, Try.ntmps71
  go_wp2_with (go_at_call 57; refine (impl_Stack_size.calls k _ _ _ _ _ HR0.out HC0.out HS.out).mono ?_; rintro e w' ⟨rfl, hbel⟩; have HBEL := Aside0.mk hbel; clear hbel)
  go_ret
  exact ⟨rfl, HBEL.out⟩
set_option maxHeartbeats 4000000 in
set_option maxRecDepth 100000 in
theorem hasTurn_calls (k : Nat) (g : Nat) (A0 : Option Addr) (c0 : Nat) (l : List Int) (A1 : Option Addr) (c1 : Nat) (js : List S88) (s : Int) (hs : impl_Stack_size.f k l = some s) (turn : Int) (t : Bool) (ht : decide (0 ≤ turn ∧ turn ≤ wrap64 (wrap64 (s * 1000) - 1)) = t) (W : World) (hg : MotP W g A0 c0 l A1 c1 js)
    (hr0 : Kd.C (Kd.int .u8) W A0 l.length l) (hc0 : l.length ≤ c0) :
    Calls Try.prog 74 #[.pointer (some ⟨g, 0, none⟩), .int .i64 turn] W fun e w' => e = .returned (.bool t) ∧ Below W.heap.size W w' := by
  have HS := Aside0.mk hs
  have HG := Aside0.mk hg
  have HR0 := Aside0.mk hr0
  have HC0 := Aside0.mk hc0
  have HIN := Aside0.mk (show impl_within.f turn 0 (wrap64 (wrap64 (s * 1000) - 1)) = some t by rw [within_fK, ht])
  clear hs hr0 hc0 hg ht
  go_enter Try.func74, Try.ntmps74
  go_wp2_with (first | (go_at_call 71; refine (span_calls k g A0 c0 l A1 c1 js s HS.out _ HG.out HR0.out HC0.out).mono ?_; rintro e w' ⟨rfl, hbel⟩; have HBEL := Aside0.mk hbel; clear hbel) | (go_at_call 48; refine (impl_within.calls _ _ _ _ _ HIN.out).mono ?_; rintro e w3 ⟨rfl, ⟨nd2, rfl⟩⟩))
  go_ret
  exact ⟨rfl, by repeat (first | exact HBEL.out | apply pw_below_drewN)⟩
def impl_SpanOf.f (k : Nat) (l0_0 : List Int) (l0_1 : List S88) : Option (Int × Int) := (impl_ValidMotion.f l0_0 l0_1).bind fun v => if v = true then (impl_Stack_size.f k l0_0).bind fun s => some (wrap64 (s * 1000), 0) else some (0, 1)
theorem impl_SpanOf.mono : ∀ a b k, LeO (impl_SpanOf.f k a b) (impl_SpanOf.f (k + 1) a b) := by
  intro a b k
  unfold impl_SpanOf.f
  repeat' first
      | (with_reducible exact impl_Stack_size.mono _ _)
      | (with_reducible exact LeO.refl _)
      | (with_reducible refine LeO.ite ?_ ?_)
      | (with_reducible refine LeO.bind ?_ (fun _ => ?_))
set_option maxHeartbeats 4000000 in
set_option maxRecDepth 100000 in
theorem impl_SpanOf.calls (k : Nat) (A0_0 : Option Addr) (c0_0 : Nat) (l0_0 : List Int) (A0_1 : Option Addr) (c0_1 : Nat) (l0_1 : List S88) (r1 r2 : Int) (w : World) (hr0_0 : Kd.C (Kd.int .u8) w A0_0 l0_0.length l0_0) (hc0_0 : l0_0.length ≤ c0_0) (hr0_1 : Kd.C k88 w A0_1 l0_1.length l0_1) (hc0_1 : l0_1.length ≤ c0_1) (h : impl_SpanOf.f k l0_0 l0_1 = some (r1, r2)) :
    Calls Try.prog 30 #[.agg #[.slice A0_0 l0_0.length c0_0, .slice A0_1 l0_1.length c0_1]] w fun e w' => e = .returned (.tuple #[.int .i64 r1, .int .i64 r2]) ∧ Below w.heap.size w w' := by
  unfold impl_SpanOf.f at h
  replace h := Option.bind_eq_some_iff.mp h
  obtain ⟨v, hv, h⟩ := h
  have HV := Aside0.mk hv
  have HR0 := Aside0.mk hr0_0
  have HR1 := Aside0.mk hr0_1
  have HC0 := Aside0.mk hc0_0
  have HC1 := Aside0.mk hc0_1
  have HBK := Aside0.mk (show MotP (w.alloc (.cells #[.slice A0_0 l0_0.length c0_0, .slice A0_1 l0_1.length c0_1] 45)) w.heap.size A0_0 c0_0 l0_0 A0_1 c0_1 l0_1 from blk_new w _)
  clear hv hr0_0 hr0_1 hc0_0 hc0_1
  cases v with
  | true =>
    rw [if_pos rfl] at h
    replace h := Option.bind_eq_some_iff.mp h
    obtain ⟨s, hs, h⟩ := h
    simp only [Option.some.injEq, Prod.mk.injEq] at h
    obtain ⟨rfl, rfl⟩ := h
    have HS := Aside0.mk hs
    clear hs
    go_enter Try.func30, Try.ntmps30
    go_wp2_with (first | (go_at_call 28; refine (impl_ValidMotion.calls _ _ l0_0 _ _ l0_1 _ _ (Kd.C_alloc HR0.out _) HC0.out (Kd.C_alloc HR1.out _) HC1.out HV.out).mono ?_; rintro e w1 ⟨rfl, hbel⟩; have HBEL := Aside0.mk hbel; clear hbel; have HG1 := Aside0.mk (show MotP w1 w.heap.size A0_0 c0_0 l0_0 A0_1 c0_1 l0_1 from blk_below HBK.out HBEL.out)) | (go_at_call 71; refine (span_calls k w.heap.size A0_0 c0_0 l0_0 A0_1 c0_1 l0_1 s HS.out _ HG1.out (Kd.C_below (Kd.C_alloc HR0.out _) HBEL.out) HC0.out).mono ?_; rintro e w2 ⟨rfl, hbel2⟩; have HBEL2 := Aside0.mk hbel2; clear hbel2))
    go_ret2
    exact ⟨rfl, below_step ((below_alloc (Below.refl w.heap.size w) _).trans (HBEL.out.mono (by simp))) HBEL2.out⟩
  | false =>
    rw [if_neg (by decide)] at h
    simp only [Option.some.injEq, Prod.mk.injEq] at h
    obtain ⟨rfl, rfl⟩ := h
    go_enter Try.func30, Try.ntmps30
    go_wp2_with (go_at_call 28; refine (impl_ValidMotion.calls _ _ l0_0 _ _ l0_1 _ _ (Kd.C_alloc HR0.out _) HC0.out (Kd.C_alloc HR1.out _) HC1.out HV.out).mono ?_; rintro e w1 ⟨rfl, hbel⟩; have HBEL := Aside0.mk hbel; clear hbel; have HG1 := Aside0.mk (show MotP w1 w.heap.size A0_0 c0_0 l0_0 A0_1 c0_1 l0_1 from blk_below HBK.out HBEL.out))
    go_ret2
    exact ⟨rfl, (below_alloc (Below.refl w.heap.size w) _).trans (HBEL.out.mono (by simp))⟩
def impl_TurnBy.f (k : Nat) (l0_0 : List Int) (l0_1 : List S88) (turn n : Int) : Option (Int × Int × Int) := (impl_ValidMotion.f l0_0 l0_1).bind fun v => if v = true then (impl_Stack_size.f k l0_0).bind fun s => (if decide (0 ≤ turn ∧ turn ≤ wrap64 (wrap64 (s * 1000) - 1)) = true then (if decide (-1000000000000000 ≤ n ∧ n ≤ 1000000000000000) = true then (impl_wrapped.f (wrap64 (turn + n)) (wrap64 (s * 1000))).bind fun q => some (q.1, q.2, 0) else some (0, 0, 2)) else some (0, 0, 2)) else some (0, 0, 1)
theorem impl_TurnBy.mono : ∀ a b c d k, LeO (impl_TurnBy.f k a b c d) (impl_TurnBy.f (k + 1) a b c d) := by
  intro a b c d k
  unfold impl_TurnBy.f
  repeat' first
      | (with_reducible exact impl_Stack_size.mono _ _)
      | (with_reducible exact LeO.refl _)
      | (with_reducible refine LeO.ite ?_ ?_)
      | (with_reducible refine LeO.bind ?_ (fun _ => ?_))
set_option maxHeartbeats 8000000 in
set_option maxRecDepth 100000 in
theorem impl_TurnBy.calls (k : Nat) (A0_0 : Option Addr) (c0_0 : Nat) (l0_0 : List Int) (A0_1 : Option Addr) (c0_1 : Nat) (l0_1 : List S88) (a1 a2 : Int) (r1 r2 r3 : Int) (w : World) (hr0_0 : Kd.C (Kd.int .u8) w A0_0 l0_0.length l0_0) (hc0_0 : l0_0.length ≤ c0_0) (hr0_1 : Kd.C k88 w A0_1 l0_1.length l0_1) (hc0_1 : l0_1.length ≤ c0_1) (h : impl_TurnBy.f k l0_0 l0_1 a1 a2 = some (r1, r2, r3)) :
    Calls Try.prog 32 #[.agg #[.slice A0_0 l0_0.length c0_0, .slice A0_1 l0_1.length c0_1], .int .i64 a1, .int .i64 a2] w fun e w' => e = .returned (.tuple #[.int .i64 r1, .int .i64 r2, .int .i64 r3]) ∧ Below w.heap.size w w' := by
  unfold impl_TurnBy.f at h
  replace h := Option.bind_eq_some_iff.mp h
  obtain ⟨v, hv, h⟩ := h
  have HV := Aside0.mk hv
  have HR0 := Aside0.mk hr0_0
  have HR1 := Aside0.mk hr0_1
  have HC0 := Aside0.mk hc0_0
  have HC1 := Aside0.mk hc0_1
  have HBK := Aside0.mk (show MotP (w.alloc (.cells #[.slice A0_0 l0_0.length c0_0, .slice A0_1 l0_1.length c0_1] 45)) w.heap.size A0_0 c0_0 l0_0 A0_1 c0_1 l0_1 from blk_new w _)
  clear hv hr0_0 hr0_1 hc0_0 hc0_1
  cases v with
  | true =>
    rw [if_pos rfl] at h
    replace h := Option.bind_eq_some_iff.mp h
    obtain ⟨s, hs, h⟩ := h
    have HS := Aside0.mk hs
    obtain ⟨t, ht⟩ : ∃ t, decide (0 ≤ a1 ∧ a1 ≤ wrap64 (wrap64 (s * 1000) - 1)) = t := ⟨_, rfl⟩
    obtain ⟨t2, ht2⟩ : ∃ t, decide (-1000000000000000 ≤ a2 ∧ a2 ≤ 1000000000000000) = t := ⟨_, rfl⟩
    rw [ht, ht2] at h
    have HT := Aside0.mk ht
    have HIN := Aside0.mk (show impl_within.f a2 (-1000000000000000) 1000000000000000 = some t2 by rw [within_fK, ht2])
    clear hs ht ht2
    cases t with
    | false =>
      rw [if_neg (by decide)] at h
      simp only [Option.some.injEq, Prod.mk.injEq] at h
      obtain ⟨rfl, rfl, rfl⟩ := h
      go_enter Try.func32, Try.ntmps32
      go_wp2_with (first | (go_at_call 28; refine (impl_ValidMotion.calls _ _ l0_0 _ _ l0_1 _ _ (Kd.C_alloc HR0.out _) HC0.out (Kd.C_alloc HR1.out _) HC1.out HV.out).mono ?_; rintro e w1 ⟨rfl, hbel⟩; have HBEL := Aside0.mk hbel; clear hbel; have HG1 := Aside0.mk (show MotP w1 w.heap.size A0_0 c0_0 l0_0 A0_1 c0_1 l0_1 from blk_below HBK.out HBEL.out)) | (go_at_call 74; refine (hasTurn_calls k w.heap.size A0_0 c0_0 l0_0 A0_1 c0_1 l0_1 s HS.out _ _ HT.out _ HG1.out (Kd.C_below (Kd.C_alloc HR0.out _) HBEL.out) HC0.out).mono ?_; rintro e w2 ⟨rfl, hbel2⟩; have HBEL2 := Aside0.mk hbel2; clear hbel2; have HG2 := Aside0.mk (show MotP w2 w.heap.size A0_0 c0_0 l0_0 A0_1 c0_1 l0_1 from blk_below HG1.out HBEL2.out)))
      go_ret3
      exact ⟨rfl, below_step ((below_alloc (Below.refl w.heap.size w) _).trans (HBEL.out.mono (by simp))) HBEL2.out⟩
    | true =>
      rw [if_pos rfl] at h
      cases t2 with
      | false =>
        rw [if_neg (by decide)] at h
        simp only [Option.some.injEq, Prod.mk.injEq] at h
        obtain ⟨rfl, rfl, rfl⟩ := h
        go_enter Try.func32, Try.ntmps32
        go_wp2_with (first | (go_at_call 28; refine (impl_ValidMotion.calls _ _ l0_0 _ _ l0_1 _ _ (Kd.C_alloc HR0.out _) HC0.out (Kd.C_alloc HR1.out _) HC1.out HV.out).mono ?_; rintro e w1 ⟨rfl, hbel⟩; have HBEL := Aside0.mk hbel; clear hbel; have HG1 := Aside0.mk (show MotP w1 w.heap.size A0_0 c0_0 l0_0 A0_1 c0_1 l0_1 from blk_below HBK.out HBEL.out)) | (go_at_call 74; refine (hasTurn_calls k w.heap.size A0_0 c0_0 l0_0 A0_1 c0_1 l0_1 s HS.out _ _ HT.out _ HG1.out (Kd.C_below (Kd.C_alloc HR0.out _) HBEL.out) HC0.out).mono ?_; rintro e w2 ⟨rfl, hbel2⟩; have HBEL2 := Aside0.mk hbel2; clear hbel2; have HG2 := Aside0.mk (show MotP w2 w.heap.size A0_0 c0_0 l0_0 A0_1 c0_1 l0_1 from blk_below HG1.out HBEL2.out)) | (go_at_call 48; refine (impl_within.calls _ _ _ _ _ HIN.out).mono ?_; rintro e w3 ⟨rfl, ⟨nd2, rfl⟩⟩))
        go_ret3
        exact ⟨rfl, by repeat (first | exact below_step ((below_alloc (Below.refl w.heap.size w) _).trans (HBEL.out.mono (by simp))) HBEL2.out | apply pw_below_drewN)⟩
      | true =>
        rw [if_pos rfl] at h
        replace h := Option.bind_eq_some_iff.mp h
        obtain ⟨⟨q1, q2⟩, hq, h⟩ := h
        simp only [Option.some.injEq, Prod.mk.injEq] at h
        obtain ⟨rfl, rfl, rfl⟩ := h
        have HQ := Aside0.mk hq
        clear hq
        go_enter Try.func32, Try.ntmps32
        go_wp2_with (first | (go_at_call 28; refine (impl_ValidMotion.calls _ _ l0_0 _ _ l0_1 _ _ (Kd.C_alloc HR0.out _) HC0.out (Kd.C_alloc HR1.out _) HC1.out HV.out).mono ?_; rintro e w1 ⟨rfl, hbel⟩; have HBEL := Aside0.mk hbel; clear hbel; have HG1 := Aside0.mk (show MotP w1 w.heap.size A0_0 c0_0 l0_0 A0_1 c0_1 l0_1 from blk_below HBK.out HBEL.out)) | (go_at_call 74; refine (hasTurn_calls k w.heap.size A0_0 c0_0 l0_0 A0_1 c0_1 l0_1 s HS.out _ _ HT.out _ HG1.out (Kd.C_below (Kd.C_alloc HR0.out _) HBEL.out) HC0.out).mono ?_; rintro e w2 ⟨rfl, hbel2⟩; have HBEL2 := Aside0.mk hbel2; clear hbel2; have HG2 := Aside0.mk (show MotP w2 w.heap.size A0_0 c0_0 l0_0 A0_1 c0_1 l0_1 from blk_below HG1.out HBEL2.out)) | (go_at_call 48; refine (impl_within.calls _ _ _ _ _ HIN.out).mono ?_; rintro e w3 ⟨rfl, ⟨nd2, rfl⟩⟩) | (go_at_call 71; refine (span_calls k w.heap.size A0_0 c0_0 l0_0 A0_1 c0_1 l0_1 s HS.out _ (blk_drewN HG2.out _) (Kd.C_drewN (Kd.C_below (Kd.C_below (Kd.C_alloc HR0.out _) HBEL.out) HBEL2.out) _) HC0.out).mono ?_; rintro e w4 ⟨rfl, hbel3⟩; have HBEL3 := Aside0.mk hbel3; clear hbel3) | (go_at_call 75; refine (impl_wrapped.calls _ _ _ _ _ HQ.out).mono ?_; rintro e w5 ⟨rfl, ⟨nd4, rfl⟩⟩))
        go_ret3
        exact ⟨rfl, pw_below_drewN (below_step (pw_below_drewN (below_step ((below_alloc (Below.refl w.heap.size w) _).trans (HBEL.out.mono (by simp))) HBEL2.out) _) HBEL3.out) _⟩
  | false =>
    rw [if_neg (by decide)] at h
    simp only [Option.some.injEq, Prod.mk.injEq] at h
    obtain ⟨rfl, rfl, rfl⟩ := h
    go_enter Try.func32, Try.ntmps32
    go_wp2_with (go_at_call 28; refine (impl_ValidMotion.calls _ _ l0_0 _ _ l0_1 _ _ (Kd.C_alloc HR0.out _) HC0.out (Kd.C_alloc HR1.out _) HC1.out HV.out).mono ?_; rintro e w1 ⟨rfl, hbel⟩; have HBEL := Aside0.mk hbel; clear hbel; have HG1 := Aside0.mk (show MotP w1 w.heap.size A0_0 c0_0 l0_0 A0_1 c0_1 l0_1 from blk_below HBK.out HBEL.out))
    go_ret3
    exact ⟨rfl, (below_alloc (Below.refl w.heap.size w) _).trans (HBEL.out.mono (by simp))⟩
end Go.Proofs.Ytcapjgjjaolofaa.P
