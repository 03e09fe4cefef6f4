/- A contract that the print does not take: a move that is none among moves. -/
import Derived.Test.YtmjfpigkobeahaaPx2
import Derived.IntWalk
namespace Go.Proofs.Ytmjfpigkobeahaa.P
open Go.RowKit Go.Proofs.YtmjfpigkobeahaaW.PrintWords Go.Proofs.YtmjfpigkobeahaaW.PrintLast Go.Proofs.YtmjfpigkobeahaaW.PrintMore
set_option linter.unusedVariables false
set_option linter.unusedSimpArgs false
/-- A move that is none. -/
def badM (n : Int) : Bool := !(decide (-1000000000000000 ≤ n ∧ n ≤ 1000000000000000))
theorem withinM (n : Int) : impl_within.f n (-1000000000000000) 1000000000000000 = some (!(badM n)) := by
  unfold impl_within.f badM
  by_cases h : -1000000000000000 ≤ n <;> simp [h]
theorem badM_calls (n : Int) (w : World) : Calls Try.prog 67 #[.int .i64 n] w fun e w' => e = .returned (.bool (badM n)) ∧ Drawn0 w w' := by
  cases hb : badM n
  all_goals
    have HB := Aside0.mk (withinM n)
    rw [hb] at HB
    clear hb
    go_enter Try.func67, Try.ntmps67
    go_wp2_with (go_at_call 51; refine (impl_within.calls _ _ _ _ _ HB.out).mono ?_; rintro e w' ⟨rfl, ⟨nd, rfl⟩⟩)
    go_ret
    exact ⟨rfl, by repeat (first | exact Drawn0.refl _ | apply Drawn0.step)⟩
theorem drop_rdM (l : List Int) (x : Int) (h0 : 0 ≤ x) (h1 : x < (l.length : Int)) : l.drop x.toNat = rd l x :: l.drop (x + 1).toNat := by
  have e : (x + 1).toNat = x.toNat + 1 := by omega
  rw [e, List.drop_eq_getElem_cons (show x.toNat < l.length by omega)]
  simp [rd, List.getD, List.getElem?_eq_getElem (show x.toNat < l.length by omega)]
/-- Where the first move that is none stands, from i on. -/
def idxM : List Int → Int → Int
  | [], _ => -1
  | b :: bs, i => if badM b = true then i else idxM bs (i + 1)
set_option maxHeartbeats 2000000 in
set_option maxRecDepth 100000 in
theorem idxM_calls (A0 : Option Addr) (c0 : Nat) (l0 : List Int) (w : World) (hr0 : Kd.C (Kd.int .i64) w A0 l0.length l0) (hc0 : l0.length ≤ c0) :
    Calls Try.prog 85 #[.slice A0 l0.length c0, .func (.func 67) #[] #[]] w fun e w' => e = .returned (.int .i64 (idxM l0 0)) ∧ Drawn0 w w' := by
  have hlen : (l0.length : Int) ≤ 9223372036854775807 := by have := hr0.2.1; omega
  have HL := Aside0.mk hlen
  have HR0 := Aside0.mk hr0
  have HC0 := Aside0.mk hc0
  clear hr0 hc0 hlen
  go_enter Try.func85, Try.ntmps85
  go_wp2
  go_loopg [8] l0.length (fun kq v8 w' => ∃ x : Int, v8 = .int .i64 x ∧ Aside0 (0 ≤ x ∧ x + kq = l0.length ∧ idxM (l0.drop x.toNat) x = idxM l0 0) ∧ Drawn0 w w')
  case atStart => exact ⟨0, rfl, ⟨by omega, by omega, by simp⟩, Drawn0.refl _⟩
  case round =>
    obtain ⟨x, rfl, HX, ⟨m1, rfl⟩⟩ := hrel
    cases gk with
    | zero =>
      have hx := HX.out
      have hd : l0.drop x.toNat = [] := List.drop_eq_nil_of_le (by omega)
      have hres : idxM l0 0 = -1 := by rw [← hx.2.2, hd]; rfl
      have Hres := Aside0.mk hres
      have hb : decide (x < (l0.length : Int)) = false := decide_eq_false (by omega)
      clear hx hd hres
      go_wp2
      go_ret
      exact ⟨by (rw [Hres.out]; first | done | rfl), by repeat (first | exact Drawn0.refl _ | apply Drawn0.step)⟩
    | succ k1 =>
      have hx := HX.out
      have p1 : 0 ≤ x := hx.1
      have q1 : x < (l0.length : Int) := by omega
      have hd := drop_rdM l0 x p1 q1
      have hb : decide (x < (l0.length : Int)) = true := decide_eq_true q1
      obtain ⟨ad, e, hcell⟩ := Kd.at_int HR0.out x p1 q1
      cases e
      have hw : wrap64 (x + 1) = x + 1 := Go.IntWalk.wrap64_in _ (by have := HL.out; omega)
      by_cases hbad : badM (rd l0 x) = true
      · have hres : idxM l0 0 = x := by rw [← hx.2.2, hd]; simp [idxM, hbad]
        have Hres := Aside0.mk hres
        have HB := Aside0.mk hbad
        clear hx hd hres hw hbad HX
        replace p1 := eq_true p1
        replace q1 := eq_true q1
        go_wp2_with (go_at_call 67; refine (badM_calls _ _).mono ?_; rw [HB.out]; rintro e w' ⟨rfl, ⟨nd, rfl⟩⟩)
        go_ret
        exact ⟨by (rw [Hres.out]; first | done | rfl), by repeat (first | exact Drawn0.refl _ | apply Drawn0.step)⟩
      · have hbad' : badM (rd l0 x) = false := by simpa using hbad
        have hnext : idxM (l0.drop (x + 1).toNat) (x + 1) = idxM l0 0 := by rw [← hx.2.2, hd]; simp [idxM, hbad']
        have HN := Aside0.mk (show 0 ≤ wrap64 (x + 1) ∧ wrap64 (x + 1) + k1 = l0.length ∧ idxM (l0.drop (wrap64 (x + 1)).toNat) (wrap64 (x + 1)) = idxM l0 0 by rw [hw]; exact ⟨by omega, by omega, hnext⟩)
        have HB := Aside0.mk hbad'
        clear hx hd hw hbad hbad' HX hnext
        replace p1 := eq_true p1
        replace q1 := eq_true q1
        go_wp2_with (go_at_call 67; refine (badM_calls _ _).mono ?_; rw [HB.out]; rintro e w' ⟨rfl, ⟨nd, rfl⟩⟩)
        go_roundg k1
        case measure => omega
        case rel => exact ⟨wrap64 (x + 1), rfl, HN, by repeat (first | exact Drawn0.refl _ | apply Drawn0.step)⟩
theorem idxM_any (l : List Int) (i : Int) (hi : 0 ≤ i) : decide (0 ≤ idxM l i) = l.any badM := by
  induction l generalizing i with
  | nil => rfl
  | cons b l ih =>
    rw [List.any_cons]
    by_cases h : badM b = true
    · simp [idxM, h, hi]
    · rw [Bool.eq_false_iff.mpr h, Bool.false_or, ← ih (i + 1) (by omega)]
      simp [idxM, h]
set_option maxHeartbeats 2000000 in
theorem containsM_calls (A0 : Option Addr) (c0 : Nat) (l0 : List Int) (b : Bool) (hb : l0.any badM = b) (w : World) (hr0 : Kd.C (Kd.int .i64) w A0 l0.length l0) (hc0 : l0.length ≤ c0) :
    Calls Try.prog 66 #[.slice A0 l0.length c0, .func (.func 67) #[] #[]] w fun e w' => e = .returned (.bool b) ∧ Drawn0 w w' := by
  rw [← idxM_any l0 0 (Int.le_refl _)] at hb
  have HB := Aside0.mk hb
  have HR0 := Aside0.mk hr0
  have HC0 := Aside0.mk hc0
  clear hb hr0 hc0
  go_enter Try.func66, Try.ntmps66
  go_wp2_with (go_at_call 85; refine (idxM_calls _ _ _ _ HR0.out HC0.out).mono ?_; rintro e w' ⟨rfl, ⟨nd, rfl⟩⟩)
  go_ret
  exact ⟨by rw [← HB.out]; rfl, by repeat (first | exact Drawn0.refl _ | apply Drawn0.step)⟩
def slices_ContainsFunc_int64_int64.f (l0 : List Int) : Option Bool := some (l0.any badM)
theorem slices_ContainsFunc_int64_int64.calls (A0 : Option Addr) (c0 : Nat) (l0 : List Int) (r : Bool) (w : World) (hr0 : Kd.C (Kd.int .i64) w A0 l0.length l0) (hc0 : l0.length ≤ c0) (h : slices_ContainsFunc_int64_int64.f l0 = some r) :
    Calls Try.prog 66 #[.slice A0 l0.length c0, .func (.func 67) #[] #[]] w fun e w' => e = .returned (.bool r) ∧ Drawn0 w w' :=
  containsM_calls A0 c0 l0 r (Option.some.inj h) w hr0 hc0
end Go.Proofs.Ytmjfpigkobeahaa.P
