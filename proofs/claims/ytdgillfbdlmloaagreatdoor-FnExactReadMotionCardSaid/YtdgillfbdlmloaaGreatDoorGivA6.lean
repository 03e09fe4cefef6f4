/- A list of numbers read from behind its head. -/
import Derived.Test.YtdgillfbdlmloaaGreatDoorPx0
import Derived.Laws.Rows
import Derived.Laws.Tables
import Derived.Laws.CopyOwn
import Derived.IntWalk
namespace Go.Proofs.YtdgillfbdlmloaaGreatDoor.P
open Go.RowKit Go.Proofs.YtdgillfbdlmloaaGreatDoorW.PrintWords Go.Proofs.YtdgillfbdlmloaaGreatDoorW.PrintLast Go.Proofs.YtdgillfbdlmloaaGreatDoorW.PrintMore
theorem drop_rd (l : List Int) (x : Int) (h0 : 0 ≤ x) (h1 : x < (l.length : Int)) : l.drop x.toNat = rd l x :: l.drop (x + 1).toNat := by
  have e : (x + 1).toNat = x.toNat + 1 := by omega
  rw [e, List.drop_eq_getElem_cons (show x.toNat < l.length by omega)]
  simp [rd, List.getD, List.getElem?_eq_getElem (show x.toNat < l.length by omega)]
theorem take_set (o a : List Int) (x : Int) (h0 : 0 ≤ x) (h1 : x < o.length) (h2 : o.length = a.length) (h : o.take x.toNat = a.take x.toNat) : (o.set x.toNat (rd a x)).take (x + 1).toNat = a.take (x + 1).toNat := by
  have e : (x + 1).toNat = x.toNat + 1 := by omega
  rw [e, List.take_succ_eq_append_getElem (by rw [List.length_set]; omega), List.take_succ_eq_append_getElem (by omega), List.getElem_set_self, List.take_set_of_le (Nat.le_refl _), h]
  simp [rd, List.getD, List.getElem?_eq_getElem (show x.toNat < a.length by omega)]
end Go.Proofs.YtdgillfbdlmloaaGreatDoor.P
/- Contracts of functions that the print does not take: a stack is valid. -/
namespace Go.Proofs.YtdgillfbdlmloaaGreatDoor.P
open Go.RowKit Go.Proofs.YtdgillfbdlmloaaGreatDoorW.PrintWords Go.Proofs.YtdgillfbdlmloaaGreatDoorW.PrintLast Go.Proofs.YtdgillfbdlmloaaGreatDoorW.PrintMore
attribute [local go_sem] max2_int min2_int max_two min_two max_three min_three max_four min_four
set_option linter.unusedVariables false
set_option linter.unusedSimpArgs false

theorem gw {n : Int} (h : -9223372036854775808 ≤ n ∧ n ≤ 9223372036854775807) : wrap64 n = n := Go.IntWalk.wrap64_in n h

/-- A base that is none. -/
def badB (b : Int) : Bool := decide (b < 2) || decide (100 < b)
theorem bad_calls (b : Int) (w : World) : Calls Tryz.prog 67 #[.int .u8 b] w fun e w' => e = .returned (.bool (badB b)) ∧ Drawn0 w w' := by
  by_cases h1 : b < 2
  · have h1b : decide (b < 2) = true := decide_eq_true h1
    have hr : badB b = true := by simp [badB, h1]
    have Hr := Aside0.mk hr
    clear h1 hr
    go_enter Tryz.func67, Tryz.ntmps67
    go_wp2
    go_ret
    exact ⟨by (rw [Hr.out]; first | done | rfl), Drawn0.refl _⟩
  · have h1b : decide (b < 2) = false := decide_eq_false h1
    by_cases h2 : 100 < b
    · have h2b : decide (100 < b) = true := decide_eq_true h2
      have hr : badB b = true := by simp [badB, h2]
      have Hr := Aside0.mk hr
      clear h1 h2 hr
      go_enter Tryz.func67, Tryz.ntmps67
      go_wp2
      go_ret
      exact ⟨by (rw [Hr.out]; first | done | rfl), Drawn0.refl _⟩
    · have h2b : decide (100 < b) = false := decide_eq_false h2
      have hr : badB b = false := by simp [badB, h1, h2]
      have Hr := Aside0.mk hr
      clear h1 h2 hr
      go_enter Tryz.func67, Tryz.ntmps67
      go_wp2
      go_ret
      exact ⟨by (rw [Hr.out]; first | done | rfl), Drawn0.refl _⟩

/-- Where the first base that is none stands, from i on. -/
def idxBad : List Int → Int → Int
  | [], _ => -1
  | b :: bs, i => if badB b = true then i else idxBad bs (i + 1)
set_option maxHeartbeats 2000000 in
set_option maxRecDepth 100000 in
theorem idx_calls (A0 : Option Addr) (c0 : Nat) (l0 : List Int) (w : World) (hr0 : Kd.C (Kd.int .u8) w A0 l0.length l0) (hc0 : l0.length ≤ c0) :
    Calls Tryz.prog 84 #[.slice A0 l0.length c0, .func (.func 67) #[] #[]] w fun e w' => e = .returned (.int .i64 (idxBad l0 0)) ∧ Drawn0 w w' := by
  have hlen : (l0.length : Int) ≤ 9223372036854775807 := by have := hr0.2.1; omega
  have HL := Aside0.mk hlen
  have HR0 := Aside0.mk hr0
  have HC0 := Aside0.mk hc0
  clear hr0 hc0 hlen
  go_enter Tryz.func84, Tryz.ntmps84
  go_wp2
  go_loopg [8] l0.length (fun kq v8 w' => ∃ x : Int, v8 = .int .i64 x ∧ Aside0 (0 ≤ x ∧ x + kq = l0.length ∧ idxBad (l0.drop x.toNat) x = idxBad l0 0) ∧ Drawn0 w w')
  case atStart => exact ⟨0, rfl, ⟨by omega, by omega, by simp⟩, Drawn0.refl _⟩
  case round =>
    obtain ⟨x, rfl, HX, ⟨m1, rfl⟩⟩ := hrel
    cases gk with
    | zero =>
      have hx := HX.out
      have hd : l0.drop x.toNat = [] := List.drop_eq_nil_of_le (by omega)
      have hres : idxBad l0 0 = -1 := by rw [← hx.2.2, hd]; rfl
      have Hres := Aside0.mk hres
      have hb : decide (x < (l0.length : Int)) = false := decide_eq_false (by omega)
      clear hx hd hres
      go_wp2
      go_ret
      exact ⟨by (rw [Hres.out]; first | done | rfl), by repeat (first | exact Drawn0.refl _ | apply Drawn0.step)⟩
    | succ k1 =>
      have hx := HX.out
      have p1 : 0 ≤ x := hx.1
      have q1 : x < (l0.length : Int) := by omega
      have hd := drop_rd l0 x p1 q1
      have hb : decide (x < (l0.length : Int)) = true := decide_eq_true q1
      obtain ⟨ad, e, hcell⟩ := Kd.at_int HR0.out x p1 q1
      cases e
      have hw : wrap64 (x + 1) = x + 1 := gw (by have := HL.out; omega)
      have HW := Aside0.mk hw
      by_cases hbad : badB (rd l0 x) = true
      · have hres : idxBad l0 0 = x := by rw [← hx.2.2, hd]; simp [idxBad, hbad]
        have Hres := Aside0.mk hres
        have HB := Aside0.mk hbad
        clear hx hd hres hw hbad HX
        replace p1 := eq_true p1
        replace q1 := eq_true q1
        go_wp2_with (go_at_call 67; refine (bad_calls _ _).mono ?_; rw [HB.out]; rintro e w' ⟨rfl, ⟨nd, rfl⟩⟩)
        go_ret
        exact ⟨by (rw [Hres.out]; first | done | rfl), by repeat (first | exact Drawn0.refl _ | apply Drawn0.step)⟩
      · have hbad' : badB (rd l0 x) = false := by simpa using hbad
        have hnext : idxBad (l0.drop (x + 1).toNat) (x + 1) = idxBad l0 0 := by rw [← hx.2.2, hd]; simp [idxBad, hbad']
        have HN := Aside0.mk (show 0 ≤ wrap64 (x + 1) ∧ wrap64 (x + 1) + k1 = l0.length ∧ idxBad (l0.drop (wrap64 (x + 1)).toNat) (wrap64 (x + 1)) = idxBad l0 0 by rw [hw]; exact ⟨by omega, by omega, hnext⟩)
        have HB := Aside0.mk hbad'
        clear hx hd hw hbad hbad' HX hnext HW
        replace p1 := eq_true p1
        replace q1 := eq_true q1
        go_wp2_with (go_at_call 67; refine (bad_calls _ _).mono ?_; rw [HB.out]; rintro e w' ⟨rfl, ⟨nd, rfl⟩⟩)
        go_roundg k1
        case measure => omega
        case rel => exact ⟨wrap64 (x + 1), rfl, HN, by repeat (first | exact Drawn0.refl _ | apply Drawn0.step)⟩
end Go.Proofs.YtdgillfbdlmloaaGreatDoor.P
