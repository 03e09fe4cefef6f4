/- A contract that the print does not take: a train is valid. -/
import Derived.Test.YtdgillfbdlmloaaDoorPx0
namespace Go.Proofs.YtdgillfbdlmloaaDoor.P
open Go.RowKit Go.Proofs.YtdgillfbdlmloaaDoorW.PrintWords Go.Proofs.YtdgillfbdlmloaaDoorW.PrintLast Go.Proofs.YtdgillfbdlmloaaDoorW.PrintMore
set_option linter.unusedVariables false
set_option linter.unusedSimpArgs false
def teethB (n : Int) : Bool := decide (8 ≤ n ∧ n ≤ 120)
theorem teethN_calls (n : Int) (r : Bool) (hr : teethB n = r) (w : World) : Calls Tryd.prog 62 #[.int .i16 n] w fun e w' => e = .returned (.bool r) ∧ Drawn0 w w' := by
  by_cases h1 : 8 ≤ n
  · have h1b : decide (8 ≤ n) = true := decide_eq_true h1
    have Hr := Aside0.mk (show r = decide (n ≤ 120) by rw [← hr]; simp [teethB, h1])
    clear h1 hr
    go_enter Tryd.func62, Tryd.ntmps62
    go_wp2
    go_ret
    exact ⟨by (rw [Hr.out]; first | done | rfl), Drawn0.refl _⟩
  · have h1b : decide (8 ≤ n) = false := decide_eq_false h1
    have Hr := Aside0.mk (show r = false by rw [← hr]; simp [teethB, h1])
    clear h1 hr
    go_enter Tryd.func62, Tryd.ntmps62
    go_wp2
    go_ret
    exact ⟨by (rw [Hr.out]; first | done | rfl), Drawn0.refl _⟩
theorem withinG_calls (n lo hi : Int) (r : Bool) (hr : decide (lo ≤ n ∧ n ≤ hi) = r) (w : World) : Calls Tryd.prog 57 #[.int .i64 n, .int .i64 lo, .int .i64 hi] w fun e w' => e = .returned (.bool r) ∧ Drawn0 w w' := by
  by_cases h1 : lo ≤ n
  · have h1b : decide (lo ≤ n) = true := decide_eq_true h1
    have Hr := Aside0.mk (show r = decide (n ≤ hi) by rw [← hr]; simp [h1])
    clear h1 hr
    go_enter Tryd.func57, Tryd.ntmps57
    go_wp2
    go_ret
    exact ⟨by (rw [Hr.out]; first | done | rfl), Drawn0.refl _⟩
  · have h1b : decide (lo ≤ n) = false := decide_eq_false h1
    have Hr := Aside0.mk (show r = false by rw [← hr]; simp [h1])
    clear h1 hr
    go_enter Tryd.func57, Tryd.ntmps57
    go_wp2
    go_ret
    exact ⟨by (rw [Hr.out]; first | done | rfl), Drawn0.refl _⟩
/-- A pair that is none. -/
def badP (a b : Int) : Bool := !teethB a || !teethB b
set_option maxHeartbeats 2000000 in
theorem badP_calls (a b : Int) (w : World) : Calls Tryd.prog 61 #[.agg #[.int .i16 a, .int .i16 b]] w fun e w' => e = .returned (.bool (badP a b)) ∧ Below w.heap.size w w' := by
  by_cases h1 : teethB a = true
  · have H1 := Aside0.mk (show teethB a = true from h1)
    by_cases h2 : teethB b = true
    · have H2 := Aside0.mk (show teethB b = true from h2)
      have Hr := Aside0.mk (show badP a b = false by simp [badP, h1, h2])
      clear h1 h2
      go_enter Tryd.func61, Tryd.ntmps61
      go_wp2_with fail
      refine (teethN_calls _ _ H1.out _).mono ?_
      rintro e w' ⟨rfl, ⟨nd, rfl⟩⟩
      go_wp2_with fail
      refine (teethN_calls _ _ H2.out _).mono ?_
      rintro e w' ⟨rfl, ⟨nd2, rfl⟩⟩
      go_wp2
      go_ret
      exact ⟨by (rw [Hr.out]; first | done | rfl), by repeat (first | exact Below.refl _ _ | apply below_alloc | apply pw_below_drewN)⟩
    · have h2' : teethB b = false := by simpa using h2
      have H2 := Aside0.mk (show teethB b = false from h2')
      have Hr := Aside0.mk (show badP a b = true by simp [badP, h2'])
      clear h1 h2 h2'
      go_enter Tryd.func61, Tryd.ntmps61
      go_wp2_with fail
      refine (teethN_calls _ _ H1.out _).mono ?_
      rintro e w' ⟨rfl, ⟨nd, rfl⟩⟩
      go_wp2_with fail
      refine (teethN_calls _ _ H2.out _).mono ?_
      rintro e w' ⟨rfl, ⟨nd2, rfl⟩⟩
      go_wp2
      go_ret
      exact ⟨by (rw [Hr.out]; first | done | rfl), by repeat (first | exact Below.refl _ _ | apply below_alloc | apply pw_below_drewN)⟩
  · have h1' : teethB a = false := by simpa using h1
    have H1 := Aside0.mk (show teethB a = false from h1')
    have Hr := Aside0.mk (show badP a b = true by simp [badP, h1'])
    clear h1 h1'
    go_enter Tryd.func61, Tryd.ntmps61
    go_wp2_with fail
    refine (teethN_calls _ _ H1.out _).mono ?_
    rintro e w' ⟨rfl, ⟨nd, rfl⟩⟩
    go_wp2
    go_ret
    exact ⟨by (rw [Hr.out]; first | done | rfl), by repeat (first | exact Below.refl _ _ | apply below_alloc | apply pw_below_drewN)⟩
/-- Where the first pair that is none stands, from i on. -/
def idxBadP : List S57 → Int → Int
  | [], _ => -1
  | b :: bs, i => if badP b.f0 b.f1 = true then i else idxBadP bs (i + 1)
theorem drop_rdP (l : List S57) (x : Int) (h0 : 0 ≤ x) (h1 : x < (l.length : Int)) : l.drop x.toNat = rd_T57 l x :: l.drop (x + 1).toNat := by
  have e : (x + 1).toNat = x.toNat + 1 := by omega
  rw [e, List.drop_eq_getElem_cons (show x.toNat < l.length by omega)]
  simp [rd_T57, List.getD, List.getElem?_eq_getElem (show x.toNat < l.length by omega)]
set_option maxHeartbeats 4000000 in
set_option maxRecDepth 100000 in
theorem idxP_calls (A0 : Option Addr) (c0 : Nat) (l0 : List S57) (w : World) (hr0 : Kd.C k57 w A0 l0.length l0) (hc0 : l0.length ≤ c0) :
    Calls Tryd.prog 85 #[.slice A0 l0.length c0, .func (.func 61) #[] #[]] w fun e w' => e = .returned (.int .i64 (idxBadP l0 0)) ∧ Below w.heap.size w w' := by
  have hlen : (l0.length : Int) ≤ 9223372036854775807 := by have := hr0.2.1; omega
  have HL := Aside0.mk hlen
  have HR0 := Aside0.mk hr0
  have HC0 := Aside0.mk hc0
  clear hr0 hc0 hlen
  go_enter Tryd.func85, Tryd.ntmps85
  go_wp2
  go_loopg [8] l0.length (fun kq v8 w' => ∃ x : Int, v8 = .int .i64 x ∧ Aside0 (0 ≤ x ∧ x + kq = l0.length ∧ idxBadP (l0.drop x.toNat) x = idxBadP l0 0) ∧ Aside0 (Below w.heap.size w w'))
  case atStart => exact ⟨0, rfl, ⟨by omega, by omega, by simp⟩, ⟨Below.refl _ _⟩⟩
  case round =>
    obtain ⟨x, rfl, HX, HW⟩ := hrel
    cases gk with
    | zero =>
      have hx := HX.out
      have hd : l0.drop x.toNat = [] := List.drop_eq_nil_of_le (by omega)
      have hres : idxBadP l0 0 = -1 := by rw [← hx.2.2, hd]; rfl
      have Hres := Aside0.mk hres
      have hb : decide (x < (l0.length : Int)) = false := decide_eq_false (by omega)
      clear hx hd hres
      go_wp2
      go_ret
      exact ⟨by (rw [Hres.out]; first | done | rfl), HW.out⟩
    | succ k1 =>
      have hx := HX.out
      have p1 : 0 ≤ x := hx.1
      have q1 : x < (l0.length : Int) := by omega
      have hd := drop_rdP l0 x p1 q1
      have hb : decide (x < (l0.length : Int)) = true := decide_eq_true q1
      obtain ⟨ad, e, hcell0, hcell1⟩ := at_T57 (Kd.C_below HR0.out HW.out) x p1 q1
      cases e
      have hw : wrap64 (x + 1) = x + 1 := Go.IntWalk.wrap64_in _ (by have := HL.out; omega)
      by_cases hbad : badP (rd_T57 l0 x).f0 (rd_T57 l0 x).f1 = true
      · have hres : idxBadP l0 0 = x := by rw [← hx.2.2, hd]; simp [idxBadP, hbad]
        have Hres := Aside0.mk hres
        have HB := Aside0.mk hbad
        clear hx hd hres hw hbad HX
        replace p1 := eq_true p1
        replace q1 := eq_true q1
        go_wp2_with (go_at_call 61; refine (badP_calls _ _ _).mono ?_; rw [HB.out]; rintro e w' ⟨rfl, hbel⟩; have HBEL := Aside0.mk hbel; clear hbel)
        go_ret
        exact ⟨by (rw [Hres.out]; first | done | rfl), HW.out.trans (HBEL.out.mono HW.out.size)⟩
      · have hbad' : badP (rd_T57 l0 x).f0 (rd_T57 l0 x).f1 = false := by simpa using hbad
        have hnext : idxBadP (l0.drop (x + 1).toNat) (x + 1) = idxBadP l0 0 := by rw [← hx.2.2, hd]; simp [idxBadP, hbad']
        have HN := Aside0.mk (show 0 ≤ wrap64 (x + 1) ∧ wrap64 (x + 1) + k1 = l0.length ∧ idxBadP (l0.drop (wrap64 (x + 1)).toNat) (wrap64 (x + 1)) = idxBadP l0 0 by rw [hw]; exact ⟨by omega, by omega, hnext⟩)
        have HB := Aside0.mk hbad'
        clear hx hd hw hbad hbad' HX hnext
        replace p1 := eq_true p1
        replace q1 := eq_true q1
        go_wp2_with (go_at_call 61; refine (badP_calls _ _ _).mono ?_; rw [HB.out]; rintro e w' ⟨rfl, hbel⟩; have HBEL := Aside0.mk hbel; clear hbel)
        go_roundg k1
        case measure => omega
        case rel => exact ⟨wrap64 (x + 1), rfl, HN, ⟨HW.out.trans (HBEL.out.mono HW.out.size)⟩⟩
set_option maxHeartbeats 2000000 in
theorem containsP_calls (A0 : Option Addr) (c0 : Nat) (l0 : List S57) (b : Bool) (hb : decide (0 ≤ idxBadP l0 0) = b) (w : World) (hr0 : Kd.C k57 w A0 l0.length l0) (hc0 : l0.length ≤ c0) :
    Calls Tryd.prog 60 #[.slice A0 l0.length c0, .func (.func 61) #[] #[]] w fun e w' => e = .returned (.bool b) ∧ Below w.heap.size w w' := by
  have HB := Aside0.mk hb
  have HR0 := Aside0.mk hr0
  have HC0 := Aside0.mk hc0
  clear hb hr0 hc0
  go_enter Tryd.func60, Tryd.ntmps60
  go_wp2_with (go_at_call 85; refine (idxP_calls _ _ _ _ HR0.out HC0.out).mono ?_; rintro e w' ⟨rfl, hbel⟩; have HBEL := Aside0.mk hbel; clear hbel)
  go_ret
  exact ⟨by rw [← HB.out]; rfl, HBEL.out⟩
theorem idxBadP_any (l : List S57) (i : Int) (hi : 0 ≤ i) : decide (0 ≤ idxBadP l i) = l.any (fun p => badP p.f0 p.f1) := by
  induction l generalizing i with
  | nil => rfl
  | cons b l ih =>
    rw [List.any_cons]
    by_cases h : badP b.f0 b.f1 = true
    · simp [idxBadP, h, hi]
    · rw [Bool.eq_false_iff.mpr h, Bool.false_or, ← ih (i + 1) (by omega)]
      simp [idxBadP, h]
/-- Is a train valid? -/
def trainB (l : List S57) : Bool := decide (1 ≤ (l.length : Int) ∧ (l.length : Int) ≤ 4) && !(l.any (fun p => badP p.f0 p.f1))
def impl_ValidTrain.f (l0 : List S57) : Option Bool := some (trainB l0)
set_option maxHeartbeats 4000000 in
set_option maxRecDepth 100000 in
theorem impl_ValidTrain.calls (A0 : Option Addr) (c0 : Nat) (l0 : List S57) (r : Bool) (w : World) (hr0 : Kd.C k57 w A0 l0.length l0) (hc0 : l0.length ≤ c0) (h : impl_ValidTrain.f l0 = some r) :
    Calls Tryd.prog 33 #[.slice A0 l0.length c0] w fun e w' => e = .returned (.bool r) ∧ Below w.heap.size w w' := by
  have hv : trainB l0 = r := Option.some.inj h
  clear h
  have HR0 := Aside0.mk hr0
  have HC0 := Aside0.mk hc0
  clear hr0 hc0
  by_cases h1 : 1 ≤ (l0.length : Int) ∧ (l0.length : Int) ≤ 4
  · have HIN := Aside0.mk (show decide (1 ≤ (l0.length : Int) ∧ (l0.length : Int) ≤ 4) = true from decide_eq_true h1)
    obtain ⟨b, hb⟩ : ∃ b, decide (0 ≤ idxBadP l0 0) = b := ⟨_, rfl⟩
    have HBAD := Aside0.mk hb
    have Hr := Aside0.mk (show r = !b by rw [← hv, ← hb, idxBadP_any l0 0 (by omega)]; simp only [trainB, decide_eq_true h1]; rfl)
    clear hv h1 hb
    cases b
    all_goals
      go_enter Tryd.func33, Tryd.ntmps33
      go_wp2_with (first | (go_at_call 57; refine (withinG_calls _ _ _ _ HIN.out _).mono ?_; rintro e w' ⟨rfl, ⟨nd2, rfl⟩⟩) | (go_at_call 60; refine (containsP_calls _ _ l0 _ HBAD.out _ ?sr HC0.out).mono ?_; (case sr => repeat (first | exact HR0.out | (with_reducible refine Kd.C_alloc ?_ _) | (with_reducible refine Kd.C_drewN ?_ _) | (with_reducible refine Kd.C_drew ?_))); rintro e w' ⟨rfl, hbel⟩; have HBEL := Aside0.mk hbel; clear hbel))
      go_ret
      exact ⟨by (rw [Hr.out]; first | done | rfl), (pw_below_drewN (Below.refl w.heap.size w) _).trans HBEL.out⟩
  · have HIN := Aside0.mk (show decide (1 ≤ (l0.length : Int) ∧ (l0.length : Int) ≤ 4) = false from decide_eq_false h1)
    have Hr := Aside0.mk (show r = false by rw [← hv]; simp only [trainB, decide_eq_false h1]; rfl)
    clear hv h1
    go_enter Tryd.func33, Tryd.ntmps33
    go_wp2_with (first | (go_at_call 57; refine (withinG_calls _ _ _ _ HIN.out _).mono ?_; rintro e w' ⟨rfl, ⟨nd2, rfl⟩⟩))
    go_ret
    exact ⟨by (rw [Hr.out]; first | done | rfl), by repeat (first | exact Below.refl _ _ | apply pw_below_drewN)⟩
end Go.Proofs.YtdgillfbdlmloaaDoor.P
