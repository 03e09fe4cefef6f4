/- Contracts that the print does not take: two motions are the same, as the reference asks. -/
import Derived.Test.YtcapjgjjaolofaaPx21
import Derived.Test.YtcapjgjjaolofaaMotB
namespace Go.Proofs.Ytcapjgjjaolofaa.P
open Go.RowKit Go.Proofs.YtcapjgjjaolofaaW.PrintWords Go.Proofs.YtcapjgjjaolofaaW.PrintLast Go.Proofs.YtcapjgjjaolofaaW.PrintMore
set_option linter.unusedVariables false
set_option linter.unusedSimpArgs false
/-- Are two lists of joints the same? -/
def sameJ : List S88 → List S88 → Bool
  | [], [] => true
  | a :: x, b :: y => (a.f0 == b.f0 && a.f1 == b.f1) && sameJ x y
  | _, _ => false
theorem sameJ_len : ∀ (x y : List S88), x.length ≠ y.length → sameJ x y = false
  | [], [], h => absurd rfl h
  | [], _ :: _, _ => rfl
  | _ :: _, [], _ => rfl
  | a :: x, b :: y, h => by
    have := sameJ_len x y (by simpa using h)
    simp [sameJ, this]
theorem sameJ_drop (js ks : List S88) (x : Int) (h0 : 0 ≤ x) (h1 : x < (js.length : Int)) (h2 : x < (ks.length : Int)) : sameJ (js.drop x.toNat) (ks.drop x.toNat) = (((rd_T88 js x).f0 == (rd_T88 ks x).f0 && (rd_T88 js x).f1 == (rd_T88 ks x).f1) && sameJ (js.drop (x + 1).toNat) (ks.drop (x + 1).toNat)) := by
  rw [drop_rdK js x h0 h1, drop_rdK ks x h0 h2]
  rfl
set_option maxHeartbeats 8000000 in
set_option maxRecDepth 100000 in
theorem l02Same_calls (k : Nat) (g : Nat) (A0 : Option Addr) (c0 : Nat) (l : List Int) (A1 : Option Addr) (c1 : Nat) (js : List S88) (g' : Nat) (B0 : Option Addr) (d0 : Nat) (m : List Int) (B1 : Option Addr) (d1 : Nat) (ks : List S88) (v : Bool) (hv : spec_SameStack.f k l m = some v) (W : World) (hg : MotP W g A0 c0 l A1 c1 js) (hg' : MotP W g' B0 d0 m B1 d1 ks)
    (hr0 : Kd.C (Kd.int .u8) W A0 l.length l) (hc0 : l.length ≤ c0) (hr1 : Kd.C k88 W A1 js.length js) (hs0 : Kd.C (Kd.int .u8) W B0 m.length m) (hd0 : m.length ≤ d0) (hs1 : Kd.C k88 W B1 ks.length ks) :
    Calls Try.prog 61 #[.pointer (some ⟨g, 0, none⟩), .pointer (some ⟨g', 0, none⟩)] W fun e w' => e = .returned (.bool (v && sameJ js ks)) ∧ Below W.heap.size W w' := by
  have hl2 : (js.length : Int) ≤ 9223372036854775807 := by have := hr1.2.1; omega
  have HL2 := Aside0.mk hl2
  have HV := Aside0.mk hv
  have HR0 := Aside0.mk hr0
  have HR1 := Aside0.mk hr1
  have HS0 := Aside0.mk hs0
  have HS1 := Aside0.mk hs1
  have HC0 := Aside0.mk hc0
  have HD0 := Aside0.mk hd0
  have HG := Aside0.mk hg
  have HG' := Aside0.mk hg'
  have hcA : W.cell? ⟨g, 0, none⟩ = some (.slice A0 l.length c0) := (blk_cell hg 0).trans rfl
  have hcB : W.cell? ⟨g, 1, none⟩ = some (.slice A1 js.length c1) := (blk_cell hg 1).trans rfl
  have hdA : W.cell? ⟨g', 0, none⟩ = some (.slice B0 m.length d0) := (blk_cell hg' 0).trans rfl
  have hdB : W.cell? ⟨g', 1, none⟩ = some (.slice B1 ks.length d1) := (blk_cell hg' 1).trans rfl
  clear hv hg hg' hr0 hr1 hc0 hl2 hs0 hs1 hd0
  cases v with
  | false =>
    go_enter Try.func61, Try.ntmps61
    go_wp2
    go_quiet (first | (go_at_call 93; refine (spec_SameStack.calls k _ _ _ _ _ _ _ _ ?s1 HC0.out ?s2 HD0.out HV.out).mono ?_; (case s1 => repeat (first | exact HR0.out | (with_reducible refine Kd.C_alloc ?_ _) | (with_reducible refine Kd.C_drewN ?_ _) | (with_reducible refine Kd.C_drew ?_))); (case s2 => repeat (first | exact HS0.out | (with_reducible refine Kd.C_alloc ?_ _) | (with_reducible refine Kd.C_drewN ?_ _) | (with_reducible refine Kd.C_drew ?_))); rintro e w' ⟨rfl, ⟨nd, rfl⟩⟩; exact ⟨rfl, _, World.drewN_drewN _ _ _⟩))
    go_wp2
    go_ret
    exact ⟨rfl, pw_below_drewN (Below.refl _ _) _⟩
  | true =>
    by_cases hn : js.length = ks.length
    · have hn1 : ((js.length : Int) != (ks.length : Int)) = false := by rw [hn]; simp
      have hn2 : (js.length != ks.length) = false := by simpa using hn
      have hn3 : (js.length == ks.length) = true := by simpa using hn
      have HN0 := Aside0.mk hn
      clear hn
      go_enter Try.func61, Try.ntmps61
      go_wp2
      go_quiet (first | (go_at_call 93; refine (spec_SameStack.calls k _ _ _ _ _ _ _ _ ?s1 HC0.out ?s2 HD0.out HV.out).mono ?_; (case s1 => repeat (first | exact HR0.out | (with_reducible refine Kd.C_alloc ?_ _) | (with_reducible refine Kd.C_drewN ?_ _) | (with_reducible refine Kd.C_drew ?_))); (case s2 => repeat (first | exact HS0.out | (with_reducible refine Kd.C_alloc ?_ _) | (with_reducible refine Kd.C_drewN ?_ _) | (with_reducible refine Kd.C_drew ?_))); rintro e w' ⟨rfl, ⟨nd, rfl⟩⟩; exact ⟨rfl, _, World.drewN_drewN _ _ _⟩))
      go_wp2
      go_loopg [5] js.length (fun kq v5 w' => ∃ x : Int, v5 = .int .i64 x ∧ Aside0 (0 ≤ x ∧ x + kq = js.length ∧ sameJ (js.drop x.toNat) (ks.drop x.toNat) = sameJ js ks) ∧ Aside0 (Below W.heap.size W w'))
      case atStart => exact ⟨0, rfl, ⟨by omega, by omega, by simp⟩, ⟨pw_below_drewN (Below.refl _ _) _⟩⟩
      case round =>
        clear hcA hcB hdA hdB
        obtain ⟨x, rfl, HX, HW⟩ := hrel
        have hgw := blk_below HG.out HW.out
        have hgw' := blk_below HG'.out HW.out
        have hcB : wr.cell? ⟨g, 1, none⟩ = some (.slice A1 js.length c1) := (blk_cell hgw 1).trans rfl
        have hdB : wr.cell? ⟨g', 1, none⟩ = some (.slice B1 ks.length d1) := (blk_cell hgw' 1).trans rfl
        clear hgw hgw'
        cases gk with
        | zero =>
          have hx := HX.out
          have hb : decide (x < (js.length : Int)) = false := decide_eq_false (by omega)
          have hres : (true && sameJ js ks) = true := by
            rw [← hx.2.2, List.drop_eq_nil_of_le (by omega), List.drop_eq_nil_of_le (by have := HN0.out; omega)]
            rfl
          have Hres := Aside0.mk hres
          clear hx hres
          go_wp2
          go_ret
          exact ⟨by (rw [Hres.out]; first | done | rfl), HW.out⟩
        | succ k1 =>
          have hx := HX.out
          have hnn := HN0.out
          have p1 : 0 ≤ x := hx.1
          have q1 : x < (js.length : Int) := by omega
          have q2 : x < (ks.length : Int) := by omega
          have hd := sameJ_drop js ks x p1 q1 q2
          have hb : decide (x < (js.length : Int)) = true := decide_eq_true q1
          obtain ⟨ad, e, hcell0, hcell1⟩ := at_T88 (Kd.C_below HR1.out HW.out) x p1 q1
          cases e
          obtain ⟨ad2, e, hcell2, hcell3⟩ := at_T88 (Kd.C_below HS1.out HW.out) x p1 q2
          cases e
          have hw : wrap64 (x + 1) = x + 1 := Go.IntWalk.wrap64_in _ (by have := HL2.out; omega)
          obtain ⟨p, hp⟩ : ∃ p, ((rd_T88 js x).f0 == (rd_T88 ks x).f0) = p := ⟨_, rfl⟩
          obtain ⟨q, hq⟩ : ∃ q, ((rd_T88 js x).f1 == (rd_T88 ks x).f1) = q := ⟨_, rfl⟩
          rw [hp, hq] at hd
          have yes : (p && q) = true → Aside0 (0 ≤ wrap64 (x + 1) ∧ wrap64 (x + 1) + k1 = js.length ∧ sameJ (js.drop (wrap64 (x + 1)).toNat) (ks.drop (wrap64 (x + 1)).toNat) = sameJ js ks) := fun h => ⟨by
            rw [hw]
            exact ⟨by omega, by omega, by rw [← hx.2.2, hd, h, Bool.true_and]⟩⟩
          have no : (p && q) = false → Aside0 ((true && sameJ js ks) = false) := fun h => ⟨by
            rw [← hx.2.2, hd, h]
            rfl⟩
          clear hx hd hw HX hnn
          replace p1 := eq_true p1
          replace q1 := eq_true q1
          replace q2 := eq_true q2
          cases p <;> cases q
          all_goals first
            | (have HN := yes rfl
               clear yes no
               go_wp2
               go_quiet (fail)
               go_wp2
               go_roundg k1
               case measure => omega
               case rel => exact ⟨wrap64 (x + 1), rfl, HN, ⟨by repeat (first | exact HW.out | apply pw_below_drewN)⟩⟩)
            | (have HN := no rfl
               clear yes no
               go_wp2
               go_quiet (fail)
               go_wp2
               go_ret
               exact ⟨by (rw [HN.out]; first | done | rfl), by repeat (first | exact HW.out | apply pw_below_drewN)⟩)
    · have hn1 : ((js.length : Int) != (ks.length : Int)) = true := bne_iff_ne.mpr (by omega)
      have hn2 : (js.length != ks.length) = true := by simpa using hn
      have hn3 : (js.length == ks.length) = false := by simpa using hn
      have HN0 := Aside0.mk (sameJ_len js ks hn)
      clear hn
      go_enter Try.func61, Try.ntmps61
      go_wp2
      go_quiet (first | (go_at_call 93; refine (spec_SameStack.calls k _ _ _ _ _ _ _ _ ?s1 HC0.out ?s2 HD0.out HV.out).mono ?_; (case s1 => repeat (first | exact HR0.out | (with_reducible refine Kd.C_alloc ?_ _) | (with_reducible refine Kd.C_drewN ?_ _) | (with_reducible refine Kd.C_drew ?_))); (case s2 => repeat (first | exact HS0.out | (with_reducible refine Kd.C_alloc ?_ _) | (with_reducible refine Kd.C_drewN ?_ _) | (with_reducible refine Kd.C_drew ?_))); rintro e w' ⟨rfl, ⟨nd, rfl⟩⟩; exact ⟨rfl, _, World.drewN_drewN _ _ _⟩))
      go_wp2
      go_ret
      exact ⟨by (rw [HN0.out]; first | done | rfl), pw_below_drewN (Below.refl _ _) _⟩
def spec_SameMotion.f (k : Nat) (l0_0 : List Int) (l0_1 : List S88) (l1_0 : List Int) (l1_1 : List S88) : Option Bool := (spec_SameStack.f k l0_0 l1_0).bind fun v => some (v && sameJ l0_1 l1_1)
theorem spec_SameMotion.mono : ∀ a b c d k, LeO (spec_SameMotion.f k a b c d) (spec_SameMotion.f (k + 1) a b c d) := by
  intro a b c d k
  unfold spec_SameMotion.f
  repeat' first
      | (with_reducible exact spec_SameStack.mono _ _ _)
      | (with_reducible exact LeO.refl _)
      | (with_reducible refine LeO.bind ?_ (fun _ => ?_))
set_option maxHeartbeats 4000000 in
set_option maxRecDepth 100000 in
theorem spec_SameMotion.calls (k : Nat) (A0_0 : Option Addr) (c0_0 : Nat) (l0_0 : List Int) (A0_1 : Option Addr) (c0_1 : Nat) (l0_1 : List S88) (A1_0 : Option Addr) (c1_0 : Nat) (l1_0 : List Int) (A1_1 : Option Addr) (c1_1 : Nat) (l1_1 : List S88) (r : Bool) (w : World) (hr0_0 : Kd.C (Kd.int .u8) w A0_0 l0_0.length l0_0) (hc0_0 : l0_0.length ≤ c0_0) (hr0_1 : Kd.C k88 w A0_1 l0_1.length l0_1) (hc0_1 : l0_1.length ≤ c0_1) (hr1_0 : Kd.C (Kd.int .u8) w A1_0 l1_0.length l1_0) (hc1_0 : l1_0.length ≤ c1_0) (hr1_1 : Kd.C k88 w A1_1 l1_1.length l1_1) (hc1_1 : l1_1.length ≤ c1_1) (h : spec_SameMotion.f k l0_0 l0_1 l1_0 l1_1 = some r) :
    Calls Try.prog 23 #[.agg #[.slice A0_0 l0_0.length c0_0, .slice A0_1 l0_1.length c0_1], .agg #[.slice A1_0 l1_0.length c1_0, .slice A1_1 l1_1.length c1_1]] w fun e w' => e = .returned (.bool r) ∧ Below w.heap.size w w' := by
  unfold spec_SameMotion.f at h
  replace h := Option.bind_eq_some_iff.mp h
  obtain ⟨v, hv, h⟩ := h
  obtain rfl := Option.some.inj h
  have HV := Aside0.mk hv
  have HR0 := Aside0.mk hr0_0
  have HR1 := Aside0.mk hr0_1
  have HS0 := Aside0.mk hr1_0
  have HS1 := Aside0.mk hr1_1
  have HC0 := Aside0.mk hc0_0
  have HD0 := Aside0.mk hc1_0
  have HBK := Aside0.mk (show MotP ((w.alloc (.cells #[.slice A0_0 l0_0.length c0_0, .slice A0_1 l0_1.length c0_1] 45)).alloc (.cells #[.slice A1_0 l1_0.length c1_0, .slice A1_1 l1_1.length c1_1] 45)) w.heap.size A0_0 c0_0 l0_0 A0_1 c0_1 l0_1 from blk_alloc (blk_new w _) _)
  have hb2 := blk_new (w.alloc (.cells #[.slice A0_0 l0_0.length c0_0, .slice A0_1 l0_1.length c0_1] 45)) (.cells #[.slice A1_0 l1_0.length c1_0, .slice A1_1 l1_1.length c1_1] 45)
  rw [World.size_alloc] at hb2
  have HBK2 := Aside0.mk (show MotP ((w.alloc (.cells #[.slice A0_0 l0_0.length c0_0, .slice A0_1 l0_1.length c0_1] 45)).alloc (.cells #[.slice A1_0 l1_0.length c1_0, .slice A1_1 l1_1.length c1_1] 45)) (w.heap.size + 1) A1_0 c1_0 l1_0 A1_1 c1_1 l1_1 from hb2)
  clear h hv hr0_0 hr0_1 hc0_0 hr1_0 hr1_1 hc1_0 hb2
  go_enter Try.func23, Try.ntmps23
  go_wp2_with (go_at_call 61; refine (l02Same_calls k w.heap.size A0_0 c0_0 l0_0 A0_1 c0_1 l0_1 (w.heap.size + 1) A1_0 c1_0 l1_0 A1_1 c1_1 l1_1 v HV.out _ HBK.out HBK2.out (Kd.C_alloc (Kd.C_alloc HR0.out _) _) HC0.out (Kd.C_alloc (Kd.C_alloc HR1.out _) _) (Kd.C_alloc (Kd.C_alloc HS0.out _) _) HD0.out (Kd.C_alloc (Kd.C_alloc HS1.out _) _)).mono ?_; rintro e w' ⟨rfl, hbel⟩; have HBEL := Aside0.mk hbel; clear hbel)
  go_ret
  exact ⟨rfl, (below_alloc (below_alloc (Below.refl w.heap.size w) _) _).trans (HBEL.out.mono (by simp; omega))⟩
end Go.Proofs.Ytcapjgjjaolofaa.P
