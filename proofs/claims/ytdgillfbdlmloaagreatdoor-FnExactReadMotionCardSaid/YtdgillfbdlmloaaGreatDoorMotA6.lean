/- Contracts that the print does not take: a joint is right; a joint that is none among joints. -/
import Derived.Test.YtdgillfbdlmloaaGreatDoorPx0
import Derived.IntWalk
namespace Go.Proofs.YtdgillfbdlmloaaGreatDoor.P
open Go.RowKit Go.Proofs.YtdgillfbdlmloaaGreatDoorW.PrintWords Go.Proofs.YtdgillfbdlmloaaGreatDoorW.PrintLast Go.Proofs.YtdgillfbdlmloaaGreatDoorW.PrintMore
set_option linter.unusedVariables false
set_option linter.unusedSimpArgs false
/-- A joint that is right. -/
def okJ (a b : Int) : Bool := if a = 0 then b == 0 else if a = 1 then decide (0 ≤ b) && decide (b < 1000) else false
set_option maxHeartbeats 2000000 in
theorem okJ_calls (a b : Int) (r : Bool) (hr : okJ a b = r) (w : World) : Calls Tryz.prog 53 #[.agg #[.int .i8 a, .int .i16 b]] w fun e w' => e = .returned (.bool r) ∧ Below w.heap.size w w' := by
  by_cases h0 : a = 0
  · subst h0
    have hb : (b == 0) = r := by rw [← hr]; rfl
    have Hb := Aside0.mk hb
    cases r
    all_goals
      have hb2 : (b == 0) = _ := hb
      clear hr hb
      go_enter Tryz.func53, Tryz.ntmps53
      go_wp2
      go_ret
      exact ⟨rfl, by repeat (first | exact Below.refl _ _ | apply below_alloc | apply pw_below_drewN)⟩
  · by_cases h1 : a = 1
    · subst h1
      by_cases h2 : 0 ≤ b
      · have h2b : decide (0 ≤ b) = true := decide_eq_true h2
        have Hr := Aside0.mk (show decide (b < 1000) = r by rw [← hr]; simp [okJ, h2])
        have h3b : decide (b < 1000) = r := Hr.out
        cases r
        all_goals
          clear hr h2
          go_enter Tryz.func53, Tryz.ntmps53
          go_wp2
          go_ret
          exact ⟨rfl, by repeat (first | exact Below.refl _ _ | apply below_alloc | apply pw_below_drewN)⟩
      · have h2b : decide (0 ≤ b) = false := decide_eq_false h2
        obtain rfl : false = r := by rw [← hr]; simp [okJ, h2]
        clear hr h2
        go_enter Tryz.func53, Tryz.ntmps53
        go_wp2
        go_ret
        exact ⟨rfl, by repeat (first | exact Below.refl _ _ | apply below_alloc | apply pw_below_drewN)⟩
    · have h0b : (a == 0) = false := by simpa using h0
      have h1b : (a == 1) = false := by simpa using h1
      obtain rfl : false = r := by rw [← hr]; simp [okJ, h0, h1]
      clear hr h0 h1
      go_enter Tryz.func53, Tryz.ntmps53
      go_wp2
      go_ret
      exact ⟨rfl, by repeat (first | exact Below.refl _ _ | apply below_alloc | apply pw_below_drewN)⟩
set_option maxHeartbeats 2000000 in
theorem badJ_calls (a b : Int) (r : Bool) (hr : (!okJ a b) = r) (w : World) : Calls Tryz.prog 52 #[.agg #[.int .i8 a, .int .i16 b]] w fun e w' => e = .returned (.bool r) ∧ Below w.heap.size w w' := by
  have H := Aside0.mk (show okJ a b = !r by rw [← hr]; simp)
  clear hr
  cases r
  all_goals
    go_enter Tryz.func52, Tryz.ntmps52
    go_wp2_with (go_at_call 53; refine (okJ_calls _ _ _ H.out _).mono ?_; rintro e w' ⟨rfl, hbel⟩; have HBEL := Aside0.mk hbel; clear hbel)
    go_ret
    exact ⟨rfl, (below_alloc (Below.refl w.heap.size w) _).trans (HBEL.out.mono (by simp))⟩
/-- Where the first joint that is none stands, from i on. -/
def idxJ : List S39 → Int → Int
  | [], _ => -1
  | b :: bs, i => if (!okJ b.f0 b.f1) = true then i else idxJ bs (i + 1)
theorem drop_rdJ (l : List S39) (x : Int) (h0 : 0 ≤ x) (h1 : x < (l.length : Int)) : l.drop x.toNat = rd_T39 l x :: l.drop (x + 1).toNat := by
  have e : (x + 1).toNat = x.toNat + 1 := by omega
  rw [e, List.drop_eq_getElem_cons (show x.toNat < l.length by omega)]
  simp [rd_T39, List.getD, List.getElem?_eq_getElem (show x.toNat < l.length by omega)]
set_option maxHeartbeats 4000000 in
set_option maxRecDepth 100000 in
theorem idxJ_calls (A0 : Option Addr) (c0 : Nat) (l0 : List S39) (w : World) (hr0 : Kd.C k39 w A0 l0.length l0) (hc0 : l0.length ≤ c0) :
    Calls Tryz.prog 74 #[.slice A0 l0.length c0, .func (.func 52) #[] #[]] w fun e w' => e = .returned (.int .i64 (idxJ l0 0)) ∧ Below w.heap.size w w' := by
  have hlen : (l0.length : Int) ≤ 9223372036854775807 := by have := hr0.2.1; omega
  have HL := Aside0.mk hlen
  have HR0 := Aside0.mk hr0
  have HC0 := Aside0.mk hc0
  clear hr0 hc0 hlen
  go_enter Tryz.func74, Tryz.ntmps74
  go_wp2
  go_loopg [8] l0.length (fun kq v8 w' => ∃ x : Int, v8 = .int .i64 x ∧ Aside0 (0 ≤ x ∧ x + kq = l0.length ∧ idxJ (l0.drop x.toNat) x = idxJ l0 0) ∧ Aside0 (Below w.heap.size w w'))
  case atStart => exact ⟨0, rfl, ⟨by omega, by omega, by simp⟩, ⟨Below.refl _ _⟩⟩
  case round =>
    obtain ⟨x, rfl, HX, HW⟩ := hrel
    cases gk with
    | zero =>
      have hx := HX.out
      have hd : l0.drop x.toNat = [] := List.drop_eq_nil_of_le (by omega)
      have hres : idxJ l0 0 = -1 := by rw [← hx.2.2, hd]; rfl
      have Hres := Aside0.mk hres
      have hb : decide (x < (l0.length : Int)) = false := decide_eq_false (by omega)
      clear hx hd hres
      go_wp2
      go_ret
      exact ⟨by (rw [Hres.out]; first | done | rfl), HW.out⟩
    | succ k1 =>
      have hx := HX.out
      have p1 : 0 ≤ x := hx.1
      have q1 : x < (l0.length : Int) := by omega
      have hd := drop_rdJ l0 x p1 q1
      have hb : decide (x < (l0.length : Int)) = true := decide_eq_true q1
      obtain ⟨ad, e, hcell0, hcell1⟩ := at_T39 (Kd.C_below HR0.out HW.out) x p1 q1
      cases e
      have hw : wrap64 (x + 1) = x + 1 := Go.IntWalk.wrap64_in _ (by have := HL.out; omega)
      by_cases hbad : (!okJ (rd_T39 l0 x).f0 (rd_T39 l0 x).f1) = true
      · have hres : idxJ l0 0 = x := by rw [← hx.2.2, hd]; simp only [idxJ]; rw [if_pos hbad]
        have Hres := Aside0.mk hres
        have HB := Aside0.mk hbad
        clear hx hd hres hw hbad HX
        replace p1 := eq_true p1
        replace q1 := eq_true q1
        go_wp2_with (go_at_call 52; refine (badJ_calls _ _ _ HB.out _).mono ?_; rintro e w' ⟨rfl, hbel⟩; have HBEL := Aside0.mk hbel; clear hbel)
        go_ret
        exact ⟨by (rw [Hres.out]; first | done | rfl), HW.out.trans (HBEL.out.mono HW.out.size)⟩
      · have hbad' : (!okJ (rd_T39 l0 x).f0 (rd_T39 l0 x).f1) = false := by simpa using hbad
        have hnext : idxJ (l0.drop (x + 1).toNat) (x + 1) = idxJ l0 0 := by rw [← hx.2.2, hd]; simp only [idxJ]; rw [if_neg hbad]
        have HN := Aside0.mk (show 0 ≤ wrap64 (x + 1) ∧ wrap64 (x + 1) + k1 = l0.length ∧ idxJ (l0.drop (wrap64 (x + 1)).toNat) (wrap64 (x + 1)) = idxJ l0 0 by rw [hw]; exact ⟨by omega, by omega, hnext⟩)
        have HB := Aside0.mk hbad'
        clear hx hd hw hbad hbad' HX hnext
        replace p1 := eq_true p1
        replace q1 := eq_true q1
        go_wp2_with (go_at_call 52; refine (badJ_calls _ _ _ HB.out _).mono ?_; rintro e w' ⟨rfl, hbel⟩; have HBEL := Aside0.mk hbel; clear hbel)
        go_roundg k1
        case measure => omega
        case rel => exact ⟨wrap64 (x + 1), rfl, HN, ⟨HW.out.trans (HBEL.out.mono HW.out.size)⟩⟩
theorem idxJ_any (l : List S39) (i : Int) (hi : 0 ≤ i) : decide (0 ≤ idxJ l i) = l.any (fun j => !okJ j.f0 j.f1) := by
  induction l generalizing i with
  | nil => rfl
  | cons b l ih =>
    rw [List.any_cons]
    by_cases h : (!okJ b.f0 b.f1) = true
    · have e : idxJ (b :: l) i = i := if_pos h
      rw [e, h, Bool.true_or]
      exact decide_eq_true hi
    · have e : idxJ (b :: l) i = idxJ l (i + 1) := if_neg h
      rw [Bool.eq_false_iff.mpr h, Bool.false_or, ← ih (i + 1) (by omega), e]
def impl_Joint.f (l0 : List S39) : Option Bool := some (l0.any (fun j => !okJ j.f0 j.f1))
set_option maxHeartbeats 2000000 in
theorem impl_Joint.calls (A0 : Option Addr) (c0 : Nat) (l0 : List S39) (r : Bool) (w : World) (hr0 : Kd.C k39 w A0 l0.length l0) (hc0 : l0.length ≤ c0) (h : impl_Joint.f l0 = some r) :
    Calls Tryz.prog 51 #[.slice A0 l0.length c0, .func (.func 52) #[] #[]] w fun e w' => e = .returned (.bool r) ∧ Below w.heap.size w w' := by
  have hb : decide (0 ≤ idxJ l0 0) = r := (idxJ_any l0 0 (by omega)).trans (Option.some.inj h)
  have HB := Aside0.mk hb
  have HR0 := Aside0.mk hr0
  have HC0 := Aside0.mk hc0
  clear hb hr0 hc0 h
  go_enter Tryz.func51, Tryz.ntmps51
  go_wp2_with (go_at_call 74; refine (idxJ_calls _ _ _ _ HR0.out HC0.out).mono ?_; rintro e w' ⟨rfl, hbel⟩; have HBEL := Aside0.mk hbel; clear hbel)
  go_ret
  exact ⟨by rw [← HB.out]; rfl, HBEL.out⟩
end Go.Proofs.YtdgillfbdlmloaaGreatDoor.P
