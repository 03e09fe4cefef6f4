/- Contracts that the print does not take: the text of a motion, as the program makes it; where the table of the powers of ten holds what the program's text lays. -/
import Derived.Test.YtdgillfbdlmloaaGreatDoorStackT
import Derived.Test.YtdgillfbdlmloaaGreatDoorPx8
namespace Go.Proofs.YtdgillfbdlmloaaGreatDoor.P
open Go.RowKit Go.Shelf Go.Proofs.YtdgillfbdlmloaaGreatDoorW.PrintWords Go.Proofs.YtdgillfbdlmloaaGreatDoorW.PrintLast Go.Proofs.YtdgillfbdlmloaaGreatDoorW.PrintMore
set_option linter.unusedVariables false
set_option linter.unusedSimpArgs false
theorem drop_rdT (l : List S39) (x : Int) (h0 : 0 ≤ x) (h1 : x < (l.length : Int)) : l.drop x.toNat = rd_T39 l x :: l.drop (x + 1).toNat := by
  have e : (x + 1).toNat = x.toNat + 1 := by omega
  rw [e, List.drop_eq_getElem_cons (show x.toNat < l.length by omega)]
  simp [rd_T39, List.getD, List.getElem?_eq_getElem (show x.toNat < l.length by omega)]
/-- The joints' texts, one behind the other. -/
def motI : List S39 → ByteArray → Option ByteArray
  | [], o => some o
  | j :: js, o => if j.f0 = 0 then (if o.size + 5 ≤ 9223372036854775807 then motI js (o ++ ⟨#[32, 101, 118, 101, 110]⟩) else none)
    else if 5 + (decS (wrap64 j.f1)).size ≤ 9223372036854775807 then (if o.size + (5 + (decS (wrap64 j.f1)).size) ≤ 9223372036854775807 then motI js (o ++ (⟨#[32, 108, 97, 116, 101]⟩ ++ decS (wrap64 j.f1))) else none) else none
set_option maxHeartbeats 8000000 in
set_option maxRecDepth 100000 in
theorem motionText_yes (A0 : Option Addr) (c0 : Nat) (l : List Int) (A1 : Option Addr) (c1 : Nat) (js : List S39) (s r : ByteArray) (hv : impl_ValidMotion.f l js = some true) (hs : impl_StackText.f l = some s) (hr : motI js s = some r) (w : World)
    (hr0 : Kd.C (Kd.int .u8) w A0 l.length l) (hc0 : l.length ≤ c0) (hr1 : Kd.C k39 w A1 js.length js) (hc1 : js.length ≤ c1) (htab : Tab w) :
    Calls Tryz.prog 18 #[.agg #[.slice A0 l.length c0, .slice A1 js.length c1]] w fun e w' => e = .returned (.string r) ∧ Below w.heap.size w w' := by
  have hl2 : (js.length : Int) ≤ 9223372036854775807 := by have := hr1.2.1; omega
  have HL2 := Aside0.mk hl2
  have HV := Aside0.mk hv
  have HS := Aside0.mk hs
  have HR0 := Aside0.mk hr0
  have HR1 := Aside0.mk hr1
  have HC0 := Aside0.mk hc0
  have HC1 := Aside0.mk hc1
  have HRR := Aside0.mk hr
  have HTAB := Aside0.mk htab
  have hb0 : Below w.heap.size w (w.alloc (.cells #[.slice A0 l.length c0, .slice A1 js.length c1] 26)) := below_alloc (Below.refl w.heap.size w) _
  have HBK := Aside0.mk (blk_new w (.cells #[.slice A0 l.length c0, .slice A1 js.length c1] 26))
  have HB0 := Aside0.mk hb0
  clear hs hr hr0 hr1 hc0 hc1 hl2 hv htab hb0
  go_enter Tryz.func18, Tryz.ntmps18
  go_wp2_with (first | (go_at_call 36; refine (impl_ValidMotion.calls _ _ _ _ _ _ _ _ (Kd.C_alloc HR0.out _) HC0.out (Kd.C_alloc HR1.out _) HC1.out HV.out).mono ?_; rintro e w1 ⟨rfl, hb1⟩; have HB1 := Aside0.mk (HB0.out.trans (hb1.mono HB0.out.size)); have hq := blk_below HBK.out hb1; have hcA : w1.cell? ⟨w.heap.size, 0, none⟩ = some (.slice A0 l.length c0) := (blk_cell hq 0).trans rfl; have HQ := Aside0.mk hq; clear hb1 hq) | (go_at_call 32; refine (impl_StackText.calls _ _ _ _ _ (Kd.C_below HR0.out HB1.out) HC0.out HS.out (tab_keep HTAB.out HB1.out (Nat.le_refl _))).mono ?_; rintro e w2 ⟨rfl, hb2⟩; have HB2 := Aside0.mk (HB1.out.trans (hb2.mono HB1.out.size)); have hcB : w2.cell? ⟨w.heap.size, 1, none⟩ = some (.slice A1 js.length c1) := (blk_cell (blk_below HQ.out hb2) 1).trans rfl; clear hb2))
  go_loopg [3, 15] js.length (fun kq v3 v15 w' => ∃ (x : Int) (o : ByteArray), v3 = .string o ∧ v15 = .int .i64 x ∧ Aside0 (0 ≤ x ∧ x + kq = js.length ∧ motI (js.drop x.toNat) o = some r) ∧ Aside0 (Below w.heap.size w w'))
  case atStart => exact ⟨0, s, rfl, rfl, ⟨by omega, by omega, by simpa using HRR.out⟩, HB2⟩
  case round =>
    clear hcA hcB HB1 HB2 HQ
    obtain ⟨x, o, rfl, rfl, HX, HW⟩ := hrel
    cases gk with
    | zero =>
      have hx := HX.out
      have hb : decide (x < (js.length : Int)) = false := decide_eq_false (by omega)
      have hres := hx.2.2
      rw [List.drop_eq_nil_of_le (by omega)] at hres
      obtain rfl := Option.some.inj hres
      clear hx hres
      go_wp2
      go_ret
      exact ⟨rfl, HW.out⟩
    | succ k1 =>
      have hx := HX.out
      have p1 : 0 ≤ x := hx.1
      have q1 : x < (js.length : Int) := by omega
      have hd := drop_rdT js x p1 q1
      have hb : decide (x < (js.length : Int)) = true := decide_eq_true q1
      obtain ⟨ad, e, hcell0, hcell1⟩ := at_T39 (Kd.C_below HR1.out HW.out) x p1 q1
      cases e
      have hw : wrap64 (x + 1) = x + 1 := Go.IntWalk.wrap64_in _ (by have := HL2.out; omega)
      have hm := hx.2.2
      rw [hd] at hm
      unfold motI at hm
      have hz : 0 ≤ wrap64 (x + 1) ∧ wrap64 (x + 1) + k1 = js.length := by rw [hw]; omega
      have HZ := Aside0.mk hz
      have HW1 := Aside0.mk hw
      generalize hj : rd_T39 js x = j at *
      have HWB := Aside0.mk (show Below w.heap.size w (wr.alloc (.cells #[.int .i8 j.f0, .int .i16 j.f1] 39)) from HW.out.alloc HW.out.size _)
      by_cases c0 : j.f0 = 0
      · rw [if_pos c0] at hm
        by_cases c1 : o.size + 5 ≤ 9223372036854775807
        · rw [if_pos c1] at hm
          have HM := Aside0.mk hm
          have z0 : (9223372036854775807 < o.size + 5) = False := eq_false (by omega)
          have cb : (j.f0 == 0) = true := by simpa using c0
          clear hx hd hw HX hz hm c0 c1 hj
          replace p1 := eq_true p1
          replace q1 := eq_true q1
          go_wp2
          go_roundg k1
          case measure => omega
          case rel => exact ⟨wrap64 (x + 1), _, rfl, rfl, ⟨HZ.out.1, HZ.out.2, by rw [HW1.out]; exact HM.out⟩, HWB⟩
        · rw [if_neg c1] at hm
          cases hm
      · rw [if_neg c0] at hm
        by_cases c1 : 5 + (decS (wrap64 j.f1)).size ≤ 9223372036854775807
        · rw [if_pos c1] at hm
          by_cases c2 : o.size + (5 + (decS (wrap64 j.f1)).size) ≤ 9223372036854775807
          · rw [if_pos c2] at hm
            have HM := Aside0.mk hm
            have z0 : (9223372036854775807 < 5 + (decS (wrap64 j.f1)).size) = False := eq_false (by omega)
            have z1 : (9223372036854775807 < o.size + (5 + (decS (wrap64 j.f1)).size)) = False := eq_false (by omega)
            have cb : (j.f0 == 0) = false := by simpa using c0
            clear hx hd hw HX hz hm c0 c1 c2 hj
            replace p1 := eq_true p1
            replace q1 := eq_true q1
            go_wp2_with (first | (go_at_call 35; (try simp only [i64_w]); refine (decimal_calls (wrap64 j.f1) (w64_in _).1 (w64_in _).2 _ (tab_keep HTAB.out HWB.out (Nat.le_refl _))).mono ?_; rintro e w2 ⟨rfl, hb2⟩; have HB2 := Aside0.mk hb2; clear hb2))
            go_roundg k1
            case measure => omega
            case rel => exact ⟨wrap64 (x + 1), _, rfl, rfl, ⟨HZ.out.1, HZ.out.2, by rw [HW1.out]; exact HM.out⟩, ⟨HWB.out.trans (HB2.out.mono HWB.out.size)⟩⟩
          · rw [if_neg c2] at hm
            cases hm
        · rw [if_neg c1] at hm
          cases hm
def impl_MotionText.f (l0_0 : List Int) (l0_1 : List S39) : Option ByteArray := (impl_ValidMotion.f l0_0 l0_1).bind fun v => if v = true then (impl_StackText.f l0_0).bind fun s => motI l0_1 s else some ⟨#[]⟩
set_option maxHeartbeats 4000000 in
set_option maxRecDepth 100000 in
theorem impl_MotionText.calls (A0_0 : Option Addr) (c0_0 : Nat) (l0_0 : List Int) (A0_1 : Option Addr) (c0_1 : Nat) (l0_1 : List S39) (r : ByteArray) (w : World) (hr0_0 : Kd.C (Kd.int .u8) w A0_0 l0_0.length l0_0) (hc0_0 : l0_0.length ≤ c0_0) (hr0_1 : Kd.C k39 w A0_1 l0_1.length l0_1) (hc0_1 : l0_1.length ≤ c0_1) (h : impl_MotionText.f l0_0 l0_1 = some r) (htab : Tab w) :
    Calls Tryz.prog 18 #[.agg #[.slice A0_0 l0_0.length c0_0, .slice A0_1 l0_1.length c0_1]] w fun e w' => e = .returned (.string r) ∧ Below w.heap.size w w' := by
  unfold impl_MotionText.f at h
  replace h := Option.bind_eq_some_iff.mp h
  obtain ⟨v, hv, h⟩ := h
  by_cases hm : v = true
  · subst hm
    rw [if_pos rfl] at h
    replace h := Option.bind_eq_some_iff.mp h
    obtain ⟨s, hs, h⟩ := h
    exact motionText_yes _ _ _ _ _ _ s r hv hs h w hr0_0 hc0_0 hr0_1 hc0_1 htab
  · rw [if_neg hm] at h
    obtain rfl := Option.some.inj h
    obtain rfl : v = false := by simpa using hm
    have HV := Aside0.mk hv
    have HR0 := Aside0.mk hr0_0
    have HR1 := Aside0.mk hr0_1
    have HC0 := Aside0.mk hc0_0
    have HC1 := Aside0.mk hc0_1
    have HB0 := Aside0.mk (show Below w.heap.size w (w.alloc (.cells #[.slice A0_0 l0_0.length c0_0, .slice A0_1 l0_1.length c0_1] 26)) from below_alloc (Below.refl w.heap.size w) _)
    clear hv hr0_0 hr0_1 hc0_0 hc0_1 hm htab
    go_enter Tryz.func18, Tryz.ntmps18
    go_wp2_with (first | (go_at_call 36; refine (impl_ValidMotion.calls _ _ _ _ _ _ _ _ (Kd.C_alloc HR0.out _) HC0.out (Kd.C_alloc HR1.out _) HC1.out HV.out).mono ?_; rintro e w1 ⟨rfl, hb1⟩; have HB1 := Aside0.mk (HB0.out.trans (hb1.mono HB0.out.size)); clear hb1))
    go_ret
    exact ⟨rfl, HB1.out⟩
end Go.Proofs.YtdgillfbdlmloaaGreatDoor.P
