/- Contracts that the print does not take: a motion that a pointer leads to is right, as the reference asks. -/
import Derived.Test.YtdgillfbdlmloaaDoorPx4
import Derived.Test.YtdgillfbdlmloaaDoorPx1
import Derived.IntWalk
namespace Go.Proofs.YtdgillfbdlmloaaDoor.P
open Go.RowKit Go.Proofs.YtdgillfbdlmloaaDoorW.PrintWords Go.Proofs.YtdgillfbdlmloaaDoorW.PrintLast Go.Proofs.YtdgillfbdlmloaaDoorW.PrintMore
set_option linter.unusedVariables false
set_option linter.unusedSimpArgs false
/-- A motion lies at block g. -/
def MotP (W : World) (g : Nat) (A0 : Option Addr) (c0 : Nat) (l : List Int) (A1 : Option Addr) (c1 : Nat) (js : List S77) : Prop :=
  W.heap[g]? = some (.cells #[.slice A0 l.length c0, .slice A1 js.length c1] 43 (0, 0))
/-- A joint that is right, as the reference asks. -/
def okS (a b : Int) : Bool := !(a == 0 && b != 0) && (decide (0 ≤ wrap64 a ∧ wrap64 a ≤ 1) && decide (0 ≤ wrap64 b ∧ wrap64 b ≤ 999))
theorem drop_rdK (l : List S77) (x : Int) (h0 : 0 ≤ x) (h1 : x < (l.length : Int)) : l.drop x.toNat = rd_T77 l x :: l.drop (x + 1).toNat := by
  have e : (x + 1).toNat = x.toNat + 1 := by omega
  rw [e, List.drop_eq_getElem_cons (show x.toNat < l.length by omega)]
  simp [rd_T77, List.getD, List.getElem?_eq_getElem (show x.toNat < l.length by omega)]
theorem in_fK (a lo hi : Int) : spec_l00In.f a lo hi = some (decide (lo ≤ a ∧ a ≤ hi)) := by
  unfold spec_l00In.f
  by_cases h : lo ≤ a <;> simp [h]
set_option maxHeartbeats 8000000 in
set_option maxRecDepth 100000 in
theorem l02Ok_calls (k : Nat) (g : Nat) (A0 : Option Addr) (c0 : Nat) (l : List Int) (A1 : Option Addr) (c1 : Nat) (js : List S77) (v : Bool) (hv : spec_ValidStack.f k l = some v) (W : World) (hg : MotP W g A0 c0 l A1 c1 js)
    (hr0 : Kd.C (Kd.int .u8) W A0 l.length l) (hc0 : l.length ≤ c0) (hr1 : Kd.C k77 W A1 js.length js) :
    Calls Tryd.prog 43 #[.pointer (some ⟨g, 0, none⟩)] W fun e w' => e = .returned (.bool (v && (decide ((js.length : Int) = wrap64 ((l.length : Int) - 1)) && js.all (fun j => okS j.f0 j.f1)))) ∧ Below W.heap.size W w' := by
  have hl1 : (l.length : Int) ≤ 9223372036854775807 := by have := hr0.2.1; omega
  have hl2 : (js.length : Int) ≤ 9223372036854775807 := by have := hr1.2.1; omega
  have HL1 := Aside0.mk hl1
  have HL2 := Aside0.mk hl2
  have HV := Aside0.mk hv
  have HR0 := Aside0.mk hr0
  have HR1 := Aside0.mk hr1
  have HC0 := Aside0.mk hc0
  have HG := Aside0.mk hg
  have hcA : W.cell? ⟨g, 0, none⟩ = some (.slice A0 l.length c0) := (blk_cell hg 0).trans rfl
  have hcB : W.cell? ⟨g, 1, none⟩ = some (.slice A1 js.length c1) := (blk_cell hg 1).trans rfl
  cases v with
  | false =>
    clear hv hg hr0 hr1 hc0 hl1 hl2
    go_enter Tryd.func43, Tryd.ntmps43
    go_wp2
    go_quiet (first | (go_at_call 73; refine (spec_ValidStack.calls k _ _ _ _ _ ?s1 HC0.out HV.out).mono ?_; (case s1 => repeat (first | exact HR0.out | (with_reducible refine Kd.C_alloc ?_ _) | (with_reducible refine Kd.C_drewN ?_ _) | (with_reducible refine Kd.C_drew ?_))); rintro e w' ⟨rfl, ⟨nd, rfl⟩⟩; exact ⟨rfl, _, World.drewN_drewN _ _ _⟩))
    go_wp2
    go_ret
    exact ⟨rfl, pw_below_drewN (Below.refl _ _) _⟩
  | true =>
    by_cases hn : (js.length : Int) = wrap64 ((l.length : Int) - 1)
    · have hn1 : ((js.length : Int) != wrap64 ((l.length : Int) - 1)) = false := by simpa using hn
      have HD := Aside0.mk (show decide ((js.length : Int) = wrap64 ((l.length : Int) - 1)) = true from decide_eq_true hn)
      clear hv hr0 hr1 hc0 hl1 hl2 hn hg
      go_enter Tryd.func43, Tryd.ntmps43
      go_wp2
      go_quiet (first | (go_at_call 73; refine (spec_ValidStack.calls k _ _ _ _ _ ?s1 HC0.out HV.out).mono ?_; (case s1 => repeat (first | exact HR0.out | (with_reducible refine Kd.C_alloc ?_ _) | (with_reducible refine Kd.C_drewN ?_ _) | (with_reducible refine Kd.C_drew ?_))); rintro e w' ⟨rfl, ⟨nd, rfl⟩⟩; exact ⟨rfl, _, World.drewN_drewN _ _ _⟩))
      go_wp2
      go_loopg [3] js.length (fun kq v3 w' => ∃ x : Int, v3 = .int .i64 x ∧ Aside0 (0 ≤ x ∧ x + kq = js.length ∧ (js.drop x.toNat).all (fun j => okS j.f0 j.f1) = js.all (fun j => okS j.f0 j.f1)) ∧ Aside0 (Below W.heap.size W w'))
      case atStart => exact ⟨0, rfl, ⟨by omega, by omega, by simp⟩, ⟨pw_below_drewN (Below.refl _ _) _⟩⟩
      case round =>
        clear hcA hcB
        obtain ⟨x, rfl, HX, HW⟩ := hrel
        have hgw := blk_below HG.out HW.out
        have hcB : wr.cell? ⟨g, 1, none⟩ = some (.slice A1 js.length c1) := (blk_cell hgw 1).trans rfl
        clear hgw
        cases gk with
        | zero =>
          have hx := HX.out
          have hb : decide (x < (js.length : Int)) = false := decide_eq_false (by omega)
          have hres : (true && (decide ((js.length : Int) = wrap64 ((l.length : Int) - 1)) && js.all (fun j => okS j.f0 j.f1))) = true := by
            rw [HD.out, ← hx.2.2, List.drop_eq_nil_of_le (by omega)]
            rfl
          have Hres := Aside0.mk hres
          clear hx hres
          go_wp2
          go_ret
          exact ⟨by (rw [Hres.out]; first | done | rfl), HW.out⟩
        | succ k1 =>
          have hx := HX.out
          have p1 : 0 ≤ x := hx.1
          have q1 : x < (js.length : Int) := by omega
          have hd := drop_rdK js x p1 q1
          have hb : decide (x < (js.length : Int)) = true := decide_eq_true q1
          obtain ⟨ad, e, hcell0, hcell1⟩ := at_T77 (Kd.C_below HR1.out HW.out) x p1 q1
          cases e
          have hw : wrap64 (x + 1) = x + 1 := Go.IntWalk.wrap64_in _ (by have := HL2.out; omega)
          obtain ⟨a, ha⟩ : ∃ a, a = (rd_T77 js x).f0 := ⟨_, rfl⟩
          obtain ⟨b, hbb⟩ : ∃ b, b = (rd_T77 js x).f1 := ⟨_, rfl⟩
          obtain ⟨t1, h1⟩ : ∃ t, decide (0 ≤ wrap64 a ∧ wrap64 a ≤ 1) = t := ⟨_, rfl⟩
          obtain ⟨t2, h2⟩ : ∃ t, decide (0 ≤ wrap64 b ∧ wrap64 b ≤ 999) = t := ⟨_, rfl⟩
          obtain ⟨p, hp⟩ : ∃ p, (a == 0) = p := ⟨_, rfl⟩
          obtain ⟨q, hq⟩ : ∃ q, (b != 0) = q := ⟨_, rfl⟩
          have HIN1 := Aside0.mk (show spec_l00In.f (wrap64 a) 0 1 = some t1 by rw [in_fK, h1])
          have HIN2 := Aside0.mk (show spec_l00In.f (wrap64 b) 0 999 = some t2 by rw [in_fK, h2])
          have hok : okS a b = (!(p && q) && (t1 && t2)) := by unfold okS; rw [h1, h2, hp, hq]
          rw [← ha] at hcell0
          rw [← hbb] at hcell1
          have hall : (js.drop x.toNat).all (fun j => okS j.f0 j.f1) = (okS a b && (js.drop (x + 1).toNat).all (fun j => okS j.f0 j.f1)) := by rw [hd, List.all_cons, ← ha, ← hbb]
          have yes : okS a b = true → Aside0 (0 ≤ wrap64 (x + 1) ∧ wrap64 (x + 1) + k1 = js.length ∧ (js.drop (wrap64 (x + 1)).toNat).all (fun j => okS j.f0 j.f1) = js.all (fun j => okS j.f0 j.f1)) := fun h => ⟨by
            rw [hw]
            exact ⟨by omega, by omega, by rw [← hx.2.2, hall, h, Bool.true_and]⟩⟩
          have no : okS a b = false → Aside0 ((true && (decide ((js.length : Int) = wrap64 ((l.length : Int) - 1)) && js.all (fun j => okS j.f0 j.f1))) = false) := fun h => ⟨by
            rw [HD.out, ← hx.2.2, hall, h]
            rfl⟩
          rw [hok] at yes no
          clear hx hd hw ha hbb hok hall HX h1 h2
          replace p1 := eq_true p1
          replace q1 := eq_true q1
          have goOn : ∀ (_ : (!(p && q) && (t1 && t2)) = true), True := fun _ => trivial
          clear goOn
          cases p <;> cases q <;> cases t1 <;> cases t2
          all_goals first
            | (have HN := yes rfl
               clear yes no
               go_wp2_with (first | (go_at_call 58; (first | (with_reducible refine (spec_l00In.calls _ _ _ _ _ HIN1.out).mono ?_) | (with_reducible refine (spec_l00In.calls _ _ _ _ _ HIN2.out).mono ?_)); rintro e w' ⟨rfl, ⟨nd, rfl⟩⟩))
               go_roundg k1
               case measure => omega
               case rel => exact ⟨wrap64 (x + 1), rfl, HN, ⟨by repeat (first | exact HW.out | apply pw_below_drewN | apply below_alloc | refine below_set ?_ HW.out.size)⟩⟩)
            | (have HN := no rfl
               clear yes no
               go_wp2_with (first | (go_at_call 58; (first | (with_reducible refine (spec_l00In.calls _ _ _ _ _ HIN1.out).mono ?_) | (with_reducible refine (spec_l00In.calls _ _ _ _ _ HIN2.out).mono ?_)); rintro e w' ⟨rfl, ⟨nd, rfl⟩⟩))
               go_ret
               exact ⟨by (rw [HN.out]; first | done | rfl), by repeat (first | exact HW.out | apply pw_below_drewN | apply below_alloc | refine below_set ?_ HW.out.size)⟩)
    · have hn1 : ((js.length : Int) != wrap64 ((l.length : Int) - 1)) = true := by simpa using hn
      have HD := Aside0.mk (show decide ((js.length : Int) = wrap64 ((l.length : Int) - 1)) = false from decide_eq_false hn)
      clear hv hr0 hr1 hc0 hl1 hl2 hn hg
      go_enter Tryd.func43, Tryd.ntmps43
      go_wp2
      go_quiet (first | (go_at_call 73; refine (spec_ValidStack.calls k _ _ _ _ _ ?s1 HC0.out HV.out).mono ?_; (case s1 => repeat (first | exact HR0.out | (with_reducible refine Kd.C_alloc ?_ _) | (with_reducible refine Kd.C_drewN ?_ _) | (with_reducible refine Kd.C_drew ?_))); rintro e w' ⟨rfl, ⟨nd, rfl⟩⟩; exact ⟨rfl, _, World.drewN_drewN _ _ _⟩))
      go_wp2
      go_ret
      exact ⟨by (rw [HD.out]; first | done | rfl), pw_below_drewN (Below.refl _ _) _⟩
end Go.Proofs.YtdgillfbdlmloaaDoor.P
