/- A contract that the print does not take: a stack is valid. -/
import Derived.Test.YtdgillfbdlmloaaGreatDoorGivA6
import Derived.Test.YtdgillfbdlmloaaGreatDoorPx3
namespace Go.Proofs.YtdgillfbdlmloaaGreatDoor.P
open Go.RowKit Go.Proofs.YtdgillfbdlmloaaGreatDoorW.PrintWords Go.Proofs.YtdgillfbdlmloaaGreatDoorW.PrintLast Go.Proofs.YtdgillfbdlmloaaGreatDoorW.PrintMore
set_option linter.unusedVariables false
set_option linter.unusedSimpArgs false
/-- The size as both texts reckon it. -/
def sizeFrom : List Int → Int → Int
  | [], out => out
  | b :: l, out => sizeFrom l (mn (wrap64 (out * wrap64 b)) 1000000000001)
def sizeZ (l : List Int) : Int := sizeFrom l 1
theorem size_rounds (l : List Int) (hl : (l.length : Int) ≤ 9223372036854775807) : ∀ (d : Nat) (k : Nat) (x out : Int), 0 ≤ x → x + d = l.length → d < k → impl_Stack_size.l0 k out l (l.length : Int) x = some (sizeFrom (l.drop x.toNat) out) := by
  intro d
  induction d with
  | zero =>
    intro k x out h0 h1 hk
    obtain ⟨k, rfl⟩ : ∃ m, k = m + 1 := ⟨k - 1, by omega⟩
    simp only [impl_Stack_size.l0]
    rw [if_neg (by omega), List.drop_eq_nil_of_le (by omega)]
    rfl
  | succ d ih =>
    intro k x out h0 h1 hk
    obtain ⟨k, rfl⟩ : ∃ m, k = m + 1 := ⟨k - 1, by omega⟩
    simp only [impl_Stack_size.l0]
    rw [if_pos (by omega), if_pos h0, if_pos (by omega), Go.IntWalk.wrap64_in (x + 1) (by omega), ih k (x + 1) _ (by omega) (by omega) (by omega), drop_rd l x h0 (by omega)]
    rfl
theorem size_eq (l : List Int) (hl : (l.length : Int) ≤ 9223372036854775807) (k : Nat) (hk : l.length < k) : impl_Stack_size.f k l = some (sizeZ l) := by
  unfold impl_Stack_size.f sizeZ
  rw [size_rounds l hl l.length k 0 1 (by omega) (by omega) hk]
  rfl
set_option maxHeartbeats 2000000 in
theorem contains_calls (A0 : Option Addr) (c0 : Nat) (l0 : List Int) (b : Bool) (hb : decide (0 ≤ idxBad l0 0) = b) (w : World) (hr0 : Kd.C (Kd.int .u8) w A0 l0.length l0) (hc0 : l0.length ≤ c0) :
    Calls Tryz.prog 66 #[.slice A0 l0.length c0, .func (.func 67) #[] #[]] w fun e w' => e = .returned (.bool b) ∧ Drawn0 w w' := by
  have HB := Aside0.mk hb
  have HR0 := Aside0.mk hr0
  have HC0 := Aside0.mk hc0
  clear hb hr0 hc0
  go_enter Tryz.func66, Tryz.ntmps66
  go_wp2_with (go_at_call 84; refine (idx_calls _ _ _ _ HR0.out HC0.out).mono ?_; rintro e w' ⟨rfl, ⟨nd, rfl⟩⟩)
  go_ret
  exact ⟨by rw [← HB.out]; rfl, by repeat (first | exact Drawn0.refl _ | apply Drawn0.step)⟩
theorem idxBad_any (l : List Int) (i : Int) (hi : 0 ≤ i) : decide (0 ≤ idxBad l i) = l.any badB := by
  induction l generalizing i with
  | nil => rfl
  | cons b l ih =>
    rw [List.any_cons]
    by_cases h : badB b = true
    · simp [idxBad, h, hi]
    · rw [Bool.eq_false_iff.mpr h, Bool.false_or, ← ih (i + 1) (by omega)]
      simp [idxBad, h]
/-- Is a stack valid? -/
def validB (l : List Int) : Bool := decide (1 ≤ (l.length : Int) ∧ (l.length : Int) ≤ 8) && (!(l.any badB) && decide (sizeZ l ≤ 1000000000000))
def impl_ValidStack.f (l0 : List Int) : Option Bool := some (validB l0)
theorem within_f (a lo hi : Int) : impl_within.f a lo hi = some (decide (lo ≤ a ∧ a ≤ hi)) := by
  unfold impl_within.f
  by_cases h : lo ≤ a <;> simp [h]
set_option maxHeartbeats 4000000 in
set_option maxRecDepth 100000 in
theorem impl_ValidStack.calls (A0 : Option Addr) (c0 : Nat) (l0 : List Int) (r : Bool) (w : World) (hr0 : Kd.C (Kd.int .u8) w A0 l0.length l0) (hc0 : l0.length ≤ c0) (h : impl_ValidStack.f l0 = some r) :
    Calls Tryz.prog 45 #[.slice A0 l0.length c0] w fun e w' => e = .returned (.bool r) ∧ Below w.heap.size w w' := by
  have hlen : (l0.length : Int) ≤ 9223372036854775807 := by have := hr0.2.1; omega
  have hv : validB l0 = r := Option.some.inj h
  clear h
  have HR0 := Aside0.mk hr0
  have HC0 := Aside0.mk hc0
  clear hr0 hc0
  by_cases h1 : 1 ≤ (l0.length : Int) ∧ (l0.length : Int) ≤ 8
  · have HIN := Aside0.mk (show impl_within.f (l0.length : Int) 1 8 = some true by rw [within_f, decide_eq_true h1])
    by_cases h2 : l0.any badB = true
    · have HBAD := Aside0.mk (show decide (0 ≤ idxBad l0 0) = true by rw [idxBad_any l0 0 (by omega)]; exact h2)
      have Hr := Aside0.mk (show r = false by rw [← hv]; simp [validB, h2])
      clear hv h1 h2 hlen
      go_enter Tryz.func45, Tryz.ntmps45
      go_wp2_with (first | (go_at_call 65; refine (impl_Stack_wheels.calls _ _ l0 _ _ HR0.out HC0.out rfl).mono ?_; rintro e w' ⟨rfl, ⟨nd, rfl⟩⟩) | (go_at_call 17; refine (impl_within.calls _ _ _ _ _ HIN.out).mono ?_; rintro e w' ⟨rfl, ⟨nd2, rfl⟩⟩) | (go_at_call 66; refine (contains_calls _ _ l0 _ HBAD.out _ ?sr HC0.out).mono ?_; (case sr => repeat (first | exact HR0.out | (with_reducible refine Kd.C_alloc ?_ _) | (with_reducible refine Kd.C_drewN ?_ _) | (with_reducible refine Kd.C_drew ?_))); rintro e w' ⟨rfl, ⟨nd3, rfl⟩⟩))
      go_ret
      exact ⟨by (rw [Hr.out]; first | done | rfl), by repeat (first | exact Below.refl _ _ | apply pw_below_drewN)⟩
    · have HBAD := Aside0.mk (show decide (0 ≤ idxBad l0 0) = false by rw [idxBad_any l0 0 (by omega)]; simpa using h2)
      have HSZ := Aside0.mk (size_eq l0 hlen (l0.length + 1) (by omega))
      have Hr := Aside0.mk (show r = decide (sizeZ l0 ≤ 1000000000000) by rw [← hv]; simp only [validB, decide_eq_true h1, Bool.eq_false_iff.mpr h2]; rfl)
      clear hv h1 h2 hlen
      go_enter Tryz.func45, Tryz.ntmps45
      go_wp2_with (first | (go_at_call 65; refine (impl_Stack_wheels.calls _ _ l0 _ _ HR0.out HC0.out rfl).mono ?_; rintro e w' ⟨rfl, ⟨nd, rfl⟩⟩) | (go_at_call 17; refine (impl_within.calls _ _ _ _ _ HIN.out).mono ?_; rintro e w' ⟨rfl, ⟨nd2, rfl⟩⟩) | (go_at_call 66; refine (contains_calls _ _ l0 _ HBAD.out _ ?sr HC0.out).mono ?_; (case sr => repeat (first | exact HR0.out | (with_reducible refine Kd.C_alloc ?_ _) | (with_reducible refine Kd.C_drewN ?_ _) | (with_reducible refine Kd.C_drew ?_))); rintro e w' ⟨rfl, ⟨nd3, rfl⟩⟩) | (go_at_call 68; refine (impl_Stack_size.calls _ _ _ l0 _ _ ?sz HC0.out HSZ.out).mono ?_; (case sz => repeat (first | exact HR0.out | (with_reducible refine Kd.C_alloc ?_ _) | (with_reducible refine Kd.C_drewN ?_ _) | (with_reducible refine Kd.C_drew ?_))); rintro e w' ⟨rfl, hbel⟩; have HBEL := Aside0.mk hbel; clear hbel))
      go_ret
      exact ⟨by (rw [Hr.out]; first | done | rfl), (pw_below_drewN (Below.refl w.heap.size w) _).trans HBEL.out⟩
  · have HIN := Aside0.mk (show impl_within.f (l0.length : Int) 1 8 = some false by rw [within_f, decide_eq_false h1])
    have Hr := Aside0.mk (show r = false by rw [← hv]; simp only [validB, decide_eq_false h1]; rfl)
    clear hv h1 hlen
    go_enter Tryz.func45, Tryz.ntmps45
    go_wp2_with (first | (go_at_call 65; refine (impl_Stack_wheels.calls _ _ l0 _ _ HR0.out HC0.out rfl).mono ?_; rintro e w' ⟨rfl, ⟨nd, rfl⟩⟩) | (go_at_call 17; refine (impl_within.calls _ _ _ _ _ HIN.out).mono ?_; rintro e w' ⟨rfl, ⟨nd2, rfl⟩⟩))
    go_ret
    exact ⟨by (rw [Hr.out]; first | done | rfl), by repeat (first | exact Below.refl _ _ | apply pw_below_drewN)⟩
end Go.Proofs.YtdgillfbdlmloaaGreatDoor.P
