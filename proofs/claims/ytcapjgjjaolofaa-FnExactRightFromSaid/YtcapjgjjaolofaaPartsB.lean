/- Contracts of functions that the print does not take: parts are valid for a motion. -/
import Derived.Test.YtcapjgjjaolofaaPx3
import Derived.Test.YtcapjgjjaolofaaPartsA
import Derived.Test.YtcapjgjjaolofaaMotB
namespace Go.Proofs.Ytcapjgjjaolofaa.P
open Go.RowKit Go.Proofs.YtcapjgjjaolofaaW.PrintWords Go.Proofs.YtcapjgjjaolofaaW.PrintLast Go.Proofs.YtcapjgjjaolofaaW.PrintMore
set_option linter.unusedVariables false
set_option linter.unusedSimpArgs false
/-- How many parts a wheel has in all. -/
def wholeZ (b : Int) : Int := wrap64 (wrap64 b * 1000)
/-- Are parts right for bases? 'zero': what is asked where no wheel is. -/
def givB (zero : Int → Bool) : List Int → List Int → Bool
  | _, [] => true
  | [], n :: p => zero n && givB zero [] p
  | b :: l, n :: p => decide (0 ≤ n ∧ n ≤ wrap64 (wholeZ b - 1)) && givB zero l p
theorem givB_in (zero : Int → Bool) (l d : List Int) (x : Int) (h0 : 0 ≤ x) (h1 : x < d.length) (h2 : x < l.length) : givB zero (l.drop x.toNat) (d.drop x.toNat) = (decide (0 ≤ rd d x ∧ rd d x ≤ wrap64 (wholeZ (rd l x) - 1)) && givB zero (l.drop (x + 1).toNat) (d.drop (x + 1).toNat)) := by
  rw [drop_rd l x h0 h2, drop_rd d x h0 h1]
  rfl
theorem givB_out (zero : Int → Bool) (l d : List Int) (x : Int) (h0 : 0 ≤ x) (h1 : x < d.length) (h2 : (l.length : Int) ≤ x) : givB zero (l.drop x.toNat) (d.drop x.toNat) = (zero (rd d x) && givB zero (l.drop (x + 1).toNat) (d.drop (x + 1).toNat)) := by
  have e1 : l.drop x.toNat = [] := List.drop_eq_nil_of_le (by omega)
  have e2 : l.drop (x + 1).toNat = [] := List.drop_eq_nil_of_le (by omega)
  rw [e1, e2, drop_rd d x h0 h1]
  rfl
def zeroS (n : Int) : Bool := decide (0 ≤ n ∧ n ≤ 0)
def zeroI (n : Int) : Bool := !(n != 0)
theorem within_fP (a lo hi : Int) : impl_within.f a lo hi = some (decide (lo ≤ a ∧ a ≤ hi)) := by
  unfold impl_within.f
  by_cases h : lo ≤ a <;> simp [h]
set_option maxHeartbeats 8000000 in
set_option maxRecDepth 100000 in
theorem given_list (g : Nat) (A0 : Option Addr) (c0 : Nat) (l : List Int) (A1 : Option Addr) (c1 : Nat) (js : List S88) (d : List Int) (hd : d.length = 8) (W : World) (hg : MotP W g A0 c0 l A1 c1 js) (hr0 : Kd.C (Kd.int .u8) W A0 l.length l) :
    Calls Try.prog 76 #[.pointer (some ⟨g, 0, none⟩), .agg (i64s d)] W fun e w' => e = .returned (.bool (givB zeroS l d)) ∧ Below W.heap.size W w' := by
  have HD := Aside0.mk hd
  have HG := Aside0.mk hg
  have HR0 := Aside0.mk hr0
  clear hd hg hr0
  go_enter Try.func76, Try.ntmps76
  go_wp2
  go_loopg [5] 8 (fun kq v5 w' => ∃ (x : Int), v5 = .int .i64 x ∧ Aside0 (0 ≤ x ∧ x + kq = 8 ∧ givB zeroS (l.drop x.toNat) (d.drop x.toNat) = givB zeroS l d) ∧ Aside0 (Below W.heap.size W w') ∧ Aside0 (w'.heap[W.heap.size]? = some (.cells (i64s d) 55 (0, 0))))
  case atStart =>
    exact ⟨0, rfl, ⟨by omega, by omega, by simp⟩, ⟨below_alloc (Below.refl _ _) _⟩, ⟨blk_new W _⟩⟩
  case round =>
    obtain ⟨x, rfl, HX, HW, H0⟩ := hrel
    have hcA : wr.cell? ⟨g, 0, none⟩ = some (.slice A0 l.length c0) := (blk_cell (blk_below HG.out HW.out) 0).trans rfl
    cases gk with
    | zero =>
      have hx := HX.out
      have hb : decide (x < 8) = false := decide_eq_false (by omega)
      have hres : givB zeroS l d = true := by
        rw [← hx.2.2, show d.drop x.toNat = [] from List.drop_eq_nil_of_le (by have := HD.out; omega)]
        cases l.drop x.toNat <;> rfl
      have Hr := Aside0.mk hres
      clear hx hres HX
      go_wp2
      go_ret
      exact ⟨by (rw [Hr.out]; first | done | rfl), HW.out⟩
    | succ k1 =>
      have hx := HX.out
      have p1 : 0 ≤ x := hx.1
      have q1 : x < 8 := by omega
      have hb : decide (x < 8) = true := decide_eq_true q1
      have hcd := blk_i64 H0.out x p1 (by have := HD.out; omega)
      have hw : wrap64 (x + 1) = x + 1 := Go.IntWalk.wrap64_in _ (by omega)
      have HWR := Aside0.mk hw
      have yes : ∀ t : Bool, givB zeroS (l.drop x.toNat) (d.drop x.toNat) = (t && givB zeroS (l.drop (x + 1).toNat) (d.drop (x + 1).toNat)) → (t = true → Aside0 (0 ≤ wrap64 (x + 1) ∧ wrap64 (x + 1) + k1 = 8 ∧ givB zeroS (l.drop (wrap64 (x + 1)).toNat) (d.drop (wrap64 (x + 1)).toNat) = givB zeroS l d)) ∧ (t = false → Aside0 (givB zeroS l d = false)) := fun t h => ⟨fun ht => ⟨by
          rw [hw]
          exact ⟨by omega, by omega, by rw [← hx.2.2, h, ht, Bool.true_and]⟩⟩, fun ht => ⟨by rw [← hx.2.2, h, ht]; rfl⟩⟩
      by_cases hin : x < (l.length : Int)
      · have hin1 : decide (x < (l.length : Int)) = true := decide_eq_true hin
        have hdg := givB_in zeroS l d x p1 (by have := HD.out; omega) hin
        obtain ⟨ad, e, hcs⟩ := Kd.at_int (Kd.C_below HR0.out HW.out) x p1 hin
        cases e
        obtain ⟨t, ht⟩ : ∃ t, decide (0 ≤ rd d x ∧ rd d x ≤ wrap64 (wholeZ (rd l x) - 1)) = t := ⟨_, rfl⟩
        have HIN := Aside0.mk (show spec_l00In.f (rd d x) 0 (wrap64 (wrap64 (wrap64 (rd l x) * 1000) - 1)) = some t by rw [in_fK]; exact congrArg some ht)
        rw [ht] at hdg
        have HY := yes t hdg
        clear hx hw HX hdg ht yes
        replace p1 := eq_true p1
        replace q1 := eq_true q1
        replace hin := eq_true hin
        cases t with
        | true =>
          have HN := HY.1 rfl
          clear HY
          go_wp2_with (go_at_call 52; refine (spec_l00In.calls _ _ _ _ _ HIN.out).mono ?_; rintro e w3 ⟨rfl, ⟨nd2, rfl⟩⟩)
          go_roundg k1
          case measure => omega
          case rel => exact ⟨wrap64 (x + 1), rfl, HN, ⟨pw_below_drewN HW.out _⟩, ⟨H0.out⟩⟩
        | false =>
          have HN := HY.2 rfl
          clear HY
          go_wp2_with (go_at_call 52; refine (spec_l00In.calls _ _ _ _ _ HIN.out).mono ?_; rintro e w3 ⟨rfl, ⟨nd2, rfl⟩⟩)
          go_ret
          exact ⟨by (rw [HN.out]; first | done | rfl), pw_below_drewN HW.out _⟩
      · have hin1 : decide (x < (l.length : Int)) = false := decide_eq_false hin
        have hdg := givB_out zeroS l d x p1 (by have := HD.out; omega) (by omega)
        obtain ⟨t, ht⟩ : ∃ t, zeroS (rd d x) = t := ⟨_, rfl⟩
        have HIN := Aside0.mk (show spec_l00In.f (rd d x) 0 0 = some t by rw [in_fK]; exact congrArg some ht)
        rw [ht] at hdg
        have HY := yes t hdg
        clear hx hw HX hdg ht yes hin
        replace p1 := eq_true p1
        replace q1 := eq_true q1
        cases t with
        | true =>
          have HN := HY.1 rfl
          clear HY
          go_wp2_with (go_at_call 52; refine (spec_l00In.calls _ _ _ _ _ HIN.out).mono ?_; rintro e w3 ⟨rfl, ⟨nd2, rfl⟩⟩)
          go_roundg k1
          case measure => omega
          case rel => exact ⟨wrap64 (x + 1), rfl, HN, ⟨pw_below_drewN HW.out _⟩, ⟨H0.out⟩⟩
        | false =>
          have HN := HY.2 rfl
          clear HY
          go_wp2_with (go_at_call 52; refine (spec_l00In.calls _ _ _ _ _ HIN.out).mono ?_; rintro e w3 ⟨rfl, ⟨nd2, rfl⟩⟩)
          go_ret
          exact ⟨by (rw [HN.out]; first | done | rfl), pw_below_drewN HW.out _⟩
set_option maxHeartbeats 4000000 in
theorem whole_calls (g : Nat) (A0 : Option Addr) (c0 : Nat) (l : List Int) (A1 : Option Addr) (c1 : Nat) (js : List S88) (x : Int) (h0 : 0 ≤ x) (h1 : x < (l.length : Int)) (W : World) (hg : MotP W g A0 c0 l A1 c1 js) (hr0 : Kd.C (Kd.int .u8) W A0 l.length l) :
    Calls Try.prog 79 #[.pointer (some ⟨g, 0, none⟩), .int .i64 x] W fun e w' => e = .returned (.int .i64 (wholeZ (rd l x))) ∧ w' = W := by
  have hcA : W.cell? ⟨g, 0, none⟩ = some (.slice A0 l.length c0) := (blk_cell hg 0).trans rfl
  obtain ⟨ad, e, hcs⟩ := Kd.at_int hr0 x h0 h1
  cases e
  replace h0 := eq_true h0
  replace h1 := eq_true h1
  clear hg hr0
  go_enter Try.func79, Try.ntmps79
  go_wp2
  go_ret
  exact ⟨rfl, rfl⟩
set_option maxHeartbeats 8000000 in
set_option maxRecDepth 100000 in
theorem partsOK_list (g : Nat) (A0 : Option Addr) (c0 : Nat) (l : List Int) (A1 : Option Addr) (c1 : Nat) (js : List S88) (d : List Int) (hd : d.length = 8) (W : World) (hg : MotP W g A0 c0 l A1 c1 js) (hr0 : Kd.C (Kd.int .u8) W A0 l.length l) :
    Calls Try.prog 77 #[.pointer (some ⟨g, 0, none⟩), .agg (i64s d)] W fun e w' => e = .returned (.bool (givB zeroI l d)) ∧ Below W.heap.size W w' := by
  have HD := Aside0.mk hd
  have HG := Aside0.mk hg
  have HR0 := Aside0.mk hr0
  have HI := Aside0.mk (info_i64 d hd)
  have HIX := Aside0.mk (index_i64 d hd)
  have HB0 := Aside0.mk (blk_new W (.cells (i64s d) 55))
  clear hd hg hr0
  go_enter Try.func77, Try.ntmps77
  go_wp2_with (refine wpList_load_row rfl 55 (.tmp 3) rfl W.heap.size rfl 55 (i64s d) (0, 0) _ HB0.out Try.underlying55 rfl HI.out ?_)
  go_loopg [8] 8 (fun kq v8 w' => ∃ (x : Int), v8 = .int .i64 x ∧ Aside0 (0 ≤ x ∧ x + kq = 8 ∧ givB zeroI (l.drop x.toNat) (d.drop x.toNat) = givB zeroI l d) ∧ Aside0 (Below W.heap.size W w'))
  case atStart =>
    exact ⟨0, rfl, ⟨by omega, by omega, by simp⟩, ⟨below_alloc (Below.refl _ _) _⟩⟩
  case round =>
    obtain ⟨x, rfl, HX, HW⟩ := hrel
    have HGW := Aside0.mk (show MotP wr g A0 c0 l A1 c1 js from blk_below HG.out HW.out)
    have hcA : wr.cell? ⟨g, 0, none⟩ = some (.slice A0 l.length c0) := (blk_cell HGW.out 0).trans rfl
    cases gk with
    | zero =>
      have hx := HX.out
      have hb : decide (x < 8) = false := decide_eq_false (by omega)
      have hres : givB zeroI l d = true := by
        rw [← hx.2.2, show d.drop x.toNat = [] from List.drop_eq_nil_of_le (by have := HD.out; omega)]
        cases l.drop x.toNat <;> rfl
      have Hr := Aside0.mk hres
      clear hx hres HX
      go_wp2
      go_ret
      exact ⟨by (rw [Hr.out]; first | done | rfl), HW.out⟩
    | succ k1 =>
      have hx := HX.out
      have p1 : 0 ≤ x := hx.1
      have q1 : x < 8 := by omega
      have hb : decide (x < 8) = true := decide_eq_true q1
      have hix := HIX.out x p1 q1
      have hw : wrap64 (x + 1) = x + 1 := Go.IntWalk.wrap64_in _ (by omega)
      have yes : ∀ t : Bool, givB zeroI (l.drop x.toNat) (d.drop x.toNat) = (t && givB zeroI (l.drop (x + 1).toNat) (d.drop (x + 1).toNat)) → (t = true → Aside0 (0 ≤ wrap64 (x + 1) ∧ wrap64 (x + 1) + k1 = 8 ∧ givB zeroI (l.drop (wrap64 (x + 1)).toNat) (d.drop (wrap64 (x + 1)).toNat) = givB zeroI l d)) ∧ (t = false → Aside0 (givB zeroI l d = false)) := fun t h => ⟨fun ht => ⟨by
          rw [hw]
          exact ⟨by omega, by omega, by rw [← hx.2.2, h, ht, Bool.true_and]⟩⟩, fun ht => ⟨by rw [← hx.2.2, h, ht]; rfl⟩⟩
      by_cases hin : x < (l.length : Int)
      · have hin1 : decide (x < (l.length : Int)) = true := decide_eq_true hin
        have hin2 : decide ((l.length : Int) ≤ x) = false := decide_eq_false (by omega)
        have HIN0 := Aside0.mk (show 0 ≤ x ∧ x < (l.length : Int) from ⟨p1, hin⟩)
        have hdg := givB_in zeroI l d x p1 (by have := HD.out; omega) hin
        obtain ⟨t, ht⟩ : ∃ t, decide (0 ≤ rd d x ∧ rd d x ≤ wrap64 (wholeZ (rd l x) - 1)) = t := ⟨_, rfl⟩
        have HIN := Aside0.mk (show impl_within.f (rd d x) 0 (wrap64 (wholeZ (rd l x) - 1)) = some t by rw [within_fP]; exact congrArg some ht)
        rw [ht] at hdg
        have HY := yes t hdg
        clear hx hw HX hdg ht yes
        replace p1 := eq_true p1
        replace q1 := eq_true q1
        replace hin := eq_true hin
        cases t with
        | true =>
          have HN := HY.1 rfl
          clear HY
          go_wp2_with (first | (go_at_call 79; refine (whole_calls g A0 c0 l A1 c1 js x HIN0.out.1 HIN0.out.2 _ HGW.out (Kd.C_below HR0.out HW.out)).mono ?_; rintro e w3 ⟨rfl, rfl⟩) | (go_at_call 48; refine (impl_within.calls _ _ _ _ _ HIN.out).mono ?_; rintro e w4 ⟨rfl, ⟨nd2, rfl⟩⟩))
          go_roundg k1
          case measure => omega
          case rel => exact ⟨wrap64 (x + 1), rfl, HN, ⟨pw_below_drewN HW.out _⟩⟩
        | false =>
          have HN := HY.2 rfl
          clear HY
          go_wp2_with (first | (go_at_call 79; refine (whole_calls g A0 c0 l A1 c1 js x HIN0.out.1 HIN0.out.2 _ HGW.out (Kd.C_below HR0.out HW.out)).mono ?_; rintro e w3 ⟨rfl, rfl⟩) | (go_at_call 48; refine (impl_within.calls _ _ _ _ _ HIN.out).mono ?_; rintro e w4 ⟨rfl, ⟨nd2, rfl⟩⟩))
          go_ret
          exact ⟨by (rw [HN.out]; first | done | rfl), pw_below_drewN HW.out _⟩
      · have hin1 : decide (x < (l.length : Int)) = false := decide_eq_false hin
        have hin2 : decide ((l.length : Int) ≤ x) = true := decide_eq_true (by omega)
        have hdg := givB_out zeroI l d x p1 (by have := HD.out; omega) (by omega)
        obtain ⟨t, ht⟩ : ∃ t, (rd d x != 0) = t := ⟨_, rfl⟩
        have HT := Aside0.mk ht
        have hz : zeroI (rd d x) = !t := by unfold zeroI; rw [ht]
        rw [hz] at hdg
        have HY := yes (!t) hdg
        clear hx hw HX hdg yes hin hz
        replace p1 := eq_true p1
        replace q1 := eq_true q1
        cases t with
        | false =>
          have HN := HY.1 rfl
          clear HY
          go_wp2
          go_roundg k1
          case measure => omega
          case rel => exact ⟨wrap64 (x + 1), rfl, HN, HW⟩
        | true =>
          have HN := HY.2 rfl
          clear HY
          go_wp2
          go_ret
          exact ⟨by (rw [HN.out]; first | done | rfl), HW.out⟩
end Go.Proofs.Ytcapjgjjaolofaa.P
