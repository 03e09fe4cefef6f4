/- Contracts that the print does not take: the text of a motion, as the reference makes it. -/
import Derived.Test.YtdgillfbdlmloaaDoorMotB
import Derived.Test.YtdgillfbdlmloaaDoorPx2
import Derived.Test.YtdgillfbdlmloaaDoorPx1
namespace Go.Proofs.YtdgillfbdlmloaaDoor.P
open Go.RowKit Go.Proofs.YtdgillfbdlmloaaDoorW.PrintWords Go.Proofs.YtdgillfbdlmloaaDoorW.PrintLast Go.Proofs.YtdgillfbdlmloaaDoorW.PrintMore
set_option linter.unusedVariables false
set_option linter.unusedSimpArgs false
/-- Is a motion right, where v says it of its stack? -/
def okM (v : Bool) (l : List Int) (js : List S77) : Bool := v && (decide ((js.length : Int) = wrap64 ((l.length : Int) - 1)) && js.all (fun j => okS j.f0 j.f1))
/-- The joints' texts, one behind the other. -/
def motD (k : Nat) : List S77 → ByteArray → Option ByteArray
  | [], o => some o
  | j :: js, o => if j.f0 = 0 then (if o.size + 5 ≤ 9223372036854775807 then motD k js (o ++ ⟨#[32, 101, 118, 101, 110]⟩) else none)
    else (spec_Decimal.f k (wrap64 j.f1)).bind fun t => if 5 + t.size ≤ 9223372036854775807 then (if o.size + (5 + t.size) ≤ 9223372036854775807 then motD k js (o ++ (⟨#[32, 108, 97, 116, 101]⟩ ++ t)) else none) else none
theorem motD_mono (js : List S77) : ∀ (o : ByteArray) (k : Nat), LeO (motD k js o) (motD (k + 1) js o) := by
  induction js with
  | nil => exact fun o k => LeO.refl _
  | cons j js ih =>
    intro o k
    unfold motD
    repeat' first
      | (with_reducible exact ih _ _)
      | (with_reducible exact spec_Decimal.mono _ _)
      | (with_reducible exact LeO.refl _)
      | (with_reducible refine LeO.ite ?_ ?_)
      | (with_reducible refine LeO.bind ?_ (fun _ => ?_))
set_option maxHeartbeats 8000000 in
set_option maxRecDepth 100000 in
theorem l02Text_calls (k : Nat) (g : Nat) (A0 : Option Addr) (c0 : Nat) (l : List Int) (A1 : Option Addr) (c1 : Nat) (js : List S77) (s r : ByteArray) (hs : spec_StackText.f k l = some s) (hr : motD k js s = some r) (W : World) (hg : MotP W g A0 c0 l A1 c1 js)
    (hr0 : Kd.C (Kd.int .u8) W A0 l.length l) (hc0 : l.length ≤ c0) (hr1 : Kd.C k77 W A1 js.length js) :
    Calls Tryd.prog 44 #[.pointer (some ⟨g, 0, none⟩)] W fun e w' => e = .returned (.string r) ∧ Below W.heap.size W w' := by
  have hl2 : (js.length : Int) ≤ 9223372036854775807 := by have := hr1.2.1; omega
  have HL2 := Aside0.mk hl2
  have HS := Aside0.mk hs
  have HR0 := Aside0.mk hr0
  have HR1 := Aside0.mk hr1
  have HC0 := Aside0.mk hc0
  have HG := Aside0.mk hg
  have HRR := Aside0.mk hr
  have hcA : W.cell? ⟨g, 0, none⟩ = some (.slice A0 l.length c0) := (blk_cell hg 0).trans rfl
  clear hs hr hr0 hr1 hc0 hg hl2
  go_enter Tryd.func44, Tryd.ntmps44
  go_wp2_with (first | (go_at_call 13; refine (spec_StackText.calls k _ _ _ _ _ HR0.out HC0.out HS.out).mono ?_; rintro e w1 ⟨rfl, hb1⟩; have HB1 := Aside0.mk hb1; clear hb1))
  go_loopg [3, 4] js.length (fun kq v3 v4 w' => ∃ (x : Int) (o : ByteArray), v3 = .string o ∧ v4 = .int .i64 x ∧ Aside0 (0 ≤ x ∧ x + kq = js.length ∧ motD k (js.drop x.toNat) o = some r) ∧ Aside0 (Below W.heap.size W w'))
  case atStart => exact ⟨0, s, rfl, rfl, ⟨by omega, by omega, by simpa using HRR.out⟩, HB1⟩
  case round =>
    clear hcA HB1
    obtain ⟨x, o, rfl, rfl, HX, HW⟩ := hrel
    have hgw := blk_below HG.out HW.out
    have hcB : wr.cell? ⟨g, 1, none⟩ = some (.slice A1 js.length c1) := (blk_cell hgw 1).trans rfl
    clear hgw
    cases gk with
    | zero =>
      have hx := HX.out
      have hb : decide (x < (js.length : Int)) = false := decide_eq_false (by omega)
      have hres := hx.2.2
      rw [List.drop_eq_nil_of_le (by omega)] at hres
      obtain rfl := Option.some.inj hres
      clear hx hres
      go_wp2
      go_ret
      exact ⟨rfl, HW.out⟩
    | succ k1 =>
      have hx := HX.out
      have p1 : 0 ≤ x := hx.1
      have q1 : x < (js.length : Int) := by omega
      have hd := drop_rdK js x p1 q1
      have hb : decide (x < (js.length : Int)) = true := decide_eq_true q1
      obtain ⟨ad, e, hcell0, hcell1⟩ := at_T77 (Kd.C_below HR1.out HW.out) x p1 q1
      cases e
      have hw : wrap64 (x + 1) = x + 1 := Go.IntWalk.wrap64_in _ (by have := HL2.out; omega)
      have hm := hx.2.2
      rw [hd] at hm
      unfold motD at hm
      have hz : 0 ≤ wrap64 (x + 1) ∧ wrap64 (x + 1) + k1 = js.length := by rw [hw]; omega
      have HZ := Aside0.mk hz
      have HW1 := Aside0.mk hw
      generalize hj : rd_T77 js x = j at *
      by_cases c0 : j.f0 = 0
      · rw [if_pos c0] at hm
        by_cases c1 : o.size + 5 ≤ 9223372036854775807
        · rw [if_pos c1] at hm
          have HM := Aside0.mk hm
          have z0 : (9223372036854775807 < o.size + 5) = False := eq_false (by omega)
          have cb : (j.f0 == 0) = true := by simpa using c0
          clear hx hd hw HX hz hm c0 c1 hj
          replace p1 := eq_true p1
          replace q1 := eq_true q1
          go_wp2
          go_roundg k1
          case measure => omega
          case rel => exact ⟨wrap64 (x + 1), _, rfl, rfl, ⟨HZ.out.1, HZ.out.2, by rw [HW1.out]; exact HM.out⟩, HW⟩
        · rw [if_neg c1] at hm
          cases hm
      · rw [if_neg c0] at hm
        replace hm := Option.bind_eq_some_iff.mp hm
        obtain ⟨t, ht, hm⟩ := hm
        by_cases c1 : 5 + t.size ≤ 9223372036854775807
        · rw [if_pos c1] at hm
          by_cases c2 : o.size + (5 + t.size) ≤ 9223372036854775807
          · rw [if_pos c2] at hm
            have HM := Aside0.mk hm
            have HT := Aside0.mk ht
            have z0 : (9223372036854775807 < 5 + t.size) = False := eq_false (by omega)
            have z1 : (9223372036854775807 < o.size + (5 + t.size)) = False := eq_false (by omega)
            have cb : (j.f0 == 0) = false := by simpa using c0
            clear hx hd hw HX hz hm c0 c1 c2 ht hj
            replace p1 := eq_true p1
            replace q1 := eq_true q1
            go_wp2_with (first | (go_at_call 59; refine (spec_Decimal.calls k _ _ _ HT.out).mono ?_; rintro e w2 ⟨rfl, hb2⟩; have HB2 := Aside0.mk hb2; clear hb2))
            go_roundg k1
            case measure => omega
            case rel => exact ⟨wrap64 (x + 1), _, rfl, rfl, ⟨HZ.out.1, HZ.out.2, by rw [HW1.out]; exact HM.out⟩, ⟨HW.out.trans (HB2.out.mono HW.out.size)⟩⟩
          · rw [if_neg c2] at hm
            cases hm
        · rw [if_neg c1] at hm
          cases hm
def spec_MotionText.f (k : Nat) (l0_0 : List Int) (l0_1 : List S77) : Option ByteArray := (spec_ValidStack.f k l0_0).bind fun v => if okM v l0_0 l0_1 = true then (spec_StackText.f k l0_0).bind fun s => motD k l0_1 s else some ⟨#[]⟩
theorem spec_MotionText.mono : ∀ a b k, LeO (spec_MotionText.f k a b) (spec_MotionText.f (k + 1) a b) := by
  intro a b k
  unfold spec_MotionText.f
  repeat' first
      | (with_reducible exact spec_ValidStack.mono _ _)
      | (with_reducible exact spec_StackText.mono _ _)
      | (with_reducible exact motD_mono _ _ _)
      | (with_reducible exact LeO.refl _)
      | (with_reducible refine LeO.ite ?_ ?_)
      | (with_reducible refine LeO.bind ?_ (fun _ => ?_))
set_option maxHeartbeats 4000000 in
set_option maxRecDepth 100000 in
theorem spec_MotionText.calls (k : Nat) (A0_0 : Option Addr) (c0_0 : Nat) (l0_0 : List Int) (A0_1 : Option Addr) (c0_1 : Nat) (l0_1 : List S77) (r : ByteArray) (w : World) (hr0_0 : Kd.C (Kd.int .u8) w A0_0 l0_0.length l0_0) (hc0_0 : l0_0.length ≤ c0_0) (hr0_1 : Kd.C k77 w A0_1 l0_1.length l0_1) (hc0_1 : l0_1.length ≤ c0_1) (h : spec_MotionText.f k l0_0 l0_1 = some r) :
    Calls Tryd.prog 18 #[.agg #[.slice A0_0 l0_0.length c0_0, .slice A0_1 l0_1.length c0_1]] w fun e w' => e = .returned (.string r) ∧ Below w.heap.size w w' := by
  unfold spec_MotionText.f at h
  replace h := Option.bind_eq_some_iff.mp h
  obtain ⟨v, hv, h⟩ := h
  have HV := Aside0.mk hv
  have HR0 := Aside0.mk hr0_0
  have HR1 := Aside0.mk hr0_1
  have HC0 := Aside0.mk hc0_0
  have HBK := Aside0.mk (show MotP (w.alloc (.cells #[.slice A0_0 l0_0.length c0_0, .slice A0_1 l0_1.length c0_1] 43)) w.heap.size A0_0 c0_0 l0_0 A0_1 c0_1 l0_1 from blk_new w _)
  clear hv hr0_0 hr0_1 hc0_0
  by_cases hm : okM v l0_0 l0_1 = true
  · rw [if_pos hm] at h
    replace h := Option.bind_eq_some_iff.mp h
    obtain ⟨s, hs, h⟩ := h
    have HM := Aside0.mk hm
    have HS := Aside0.mk hs
    have HD := Aside0.mk h
    clear hm hs h
    go_enter Tryd.func18, Tryd.ntmps18
    go_wp2_with (first | (go_at_call 43; refine (l02Ok_calls k w.heap.size A0_0 c0_0 l0_0 A0_1 c0_1 l0_1 v HV.out _ HBK.out (Kd.C_alloc HR0.out _) HC0.out (Kd.C_alloc HR1.out _)).mono ?_; rintro e w1 ⟨rfl, hbel⟩; have HBEL := Aside0.mk hbel; clear hbel; have HG1 := Aside0.mk (show MotP w1 w.heap.size A0_0 c0_0 l0_0 A0_1 c0_1 l0_1 from blk_below HBK.out HBEL.out); have hm2 : okM v l0_0 l0_1 = true := HM.out; unfold okM at hm2; rw [hm2]; clear hm2) | (go_at_call 44; refine (l02Text_calls k w.heap.size A0_0 c0_0 l0_0 A0_1 c0_1 l0_1 s r HS.out HD.out _ HG1.out (Kd.C_below (Kd.C_alloc HR0.out _) HBEL.out) HC0.out (Kd.C_below (Kd.C_alloc HR1.out _) HBEL.out)).mono ?_; rintro e w2 ⟨rfl, hb2⟩; have HB2 := Aside0.mk hb2; clear hb2))
    go_ret
    exact ⟨rfl, ((below_alloc (Below.refl w.heap.size w) _).trans (HBEL.out.mono (by simp))).trans (HB2.out.mono (by have := HBEL.out.size; simp at this; omega))⟩
  · rw [if_neg hm] at h
    obtain rfl := Option.some.inj h
    have HM := Aside0.mk (show okM v l0_0 l0_1 = false by simpa using hm)
    clear hm
    go_enter Tryd.func18, Tryd.ntmps18
    go_wp2_with (first | (go_at_call 43; refine (l02Ok_calls k w.heap.size A0_0 c0_0 l0_0 A0_1 c0_1 l0_1 v HV.out _ HBK.out (Kd.C_alloc HR0.out _) HC0.out (Kd.C_alloc HR1.out _)).mono ?_; rintro e w1 ⟨rfl, hbel⟩; have HBEL := Aside0.mk hbel; clear hbel; have hm2 : okM v l0_0 l0_1 = false := HM.out; unfold okM at hm2; rw [hm2]; clear hm2))
    go_ret
    exact ⟨rfl, (below_alloc (Below.refl w.heap.size w) _).trans (HBEL.out.mono (by simp))⟩
end Go.Proofs.YtdgillfbdlmloaaDoor.P
