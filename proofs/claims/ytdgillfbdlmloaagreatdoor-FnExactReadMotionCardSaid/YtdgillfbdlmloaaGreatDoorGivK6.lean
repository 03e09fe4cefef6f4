/- slices.Backward over a stack: what its closure hands on, round by round. -/
import Derived.Test.YtdgillfbdlmloaaGreatDoorGivA6
import Derived.RangeFuncBox
import Derived.RangeFuncNested
import Derived.RangeFuncBound
import Derived.RangeFuncCalls
import Derived.RangeFuncLeaves
import Derived.Shelf.Abstract
import Derived.OwnWalkIn
import Derived.TacticsInMore
import Derived.LoopNIn
import Derived.LoopIn
namespace Go.Proofs.YtdgillfbdlmloaaGreatDoor.P
open Go.RowKit Go.Shelf Go.Proofs.YtdgillfbdlmloaaGreatDoorW.PrintWords Go.Proofs.YtdgillfbdlmloaaGreatDoorW.PrintLast Go.Proofs.YtdgillfbdlmloaaGreatDoorW.PrintMore
attribute [local go_sem] Oper.semAt_some
set_option linter.unusedVariables false
set_option linter.unusedSimpArgs false
/-- What has come when k rounds are over. -/
def upto {α : Type} (f : Nat → α) (k : Nat) : List α := (List.range k).map f
theorem upto_succ {α : Type} (f : Nat → α) (k : Nat) : upto f (k + 1) = upto f k ++ [f k] := by simp [upto, List.range_succ]
theorem upto_length {α : Type} (f : Nat → α) (k : Nat) : (upto f k).length = k := by simp [upto]
/-- The j-th that comes, from behind. -/
def bk (l : List Int) (j : Nat) : Int × Int := ((l.length : Int) - 1 - j, rd l ((l.length : Int) - 1 - j))
/-- What a round keeps: what lay below, and the box of the slice. -/
def KB (n₀ Bs : Nat) (W W' : World) : Prop := Below n₀ W W' ∧ ∀ v, W.cell? ⟨Bs, 0, none⟩ = some v → W'.cell? ⟨Bs, 0, none⟩ = some v
theorem KB_t {n₀ Bs : Nat} {A B C : World} (h : KB n₀ Bs A B) (k : KB n₀ Bs B C) : KB n₀ Bs A C := ⟨h.1.trans k.1, fun v hv => k.2 v (h.2 v hv)⟩
theorem KB_b {n₀ Bs : Nat} {w : World} (hn : n₀ ≤ w.heap.size) (hb : Bs < w.heap.size) (W : World) (l : Nat) (o o' : Obj) (hl : w.heap.size ≤ l) (h : W.heap[l]? = some o) (h1 : o.isCells = false) (h2 : o.isWalk = false) : KB n₀ Bs W (W.putObj l o') :=
  ⟨belowK_b hn W l o o' hl h h1 h2, fun v hv => cell_kept hv (grownBy_putObj' W l o') (fun r e => by cases e; exact ⟨o, h, h1⟩)⟩
set_option maxRecDepth 100000 in
set_option maxHeartbeats 4000000 in
theorem bk1_in {α : Type} (enc : α → Int × Int) (f : Nat → α) (F : Fence) (n : Nat) (h7 : F.fn 69) (hro : F.round = none) (hn : 1 ≤ n) (lp Bs : Nat) (A0 : Option Addr) (c0 : Nat) (l0 : List Int) (hf : ∀ k, k < l0.length → enc (f k) = bk l0 k) (w0 : World) (hr0 : Kd.C (Kd.int .u8) w0 A0 l0.length l0) (J Jx : List α → World → Prop)
    (hY : ∀ pre x W, J pre W → pre.length < l0.length → YieldAt F (n - 1) Tryz.prog lp #[.int .i64 (enc x).1, .int .u8 (enc x).2] W fun e W' =>
      (e = .returned (.bool true) ∧ J (pre ++ [x]) W' ∧ KB w0.heap.size Bs W W') ∨ (e = .returned (.bool false) ∧ Jx (pre ++ [x]) W'))
    (W : World) (hW : Below w0.heap.size w0 W) (hBs : W.cell? ⟨Bs, 0, none⟩ = some (.slice A0 l0.length c0)) (h0 : J [] W) :
    CallsIn F n Tryz.prog 69 #[.func (.yield lp) #[] #[], .pointer (some ⟨Bs, 0, none⟩)] W fun e W' => (∃ v, e = .returned v) ∧
      ((∃ ys, ys = upto f l0.length ∧ J ys W') ∨ (∃ pre, True ∧ Jx pre W')) := by
  have hlen : (l0.length : Int) ≤ 9223372036854775807 := by have := hr0.2.1; omega
  have HL := Aside0.mk hlen
  have HR0 := Aside0.mk hr0
  have hs1 : wrap64 ((l0.length : Int) - 1) = (l0.length : Int) - 1 := Go.IntWalk.wrap64_in _ (by omega)
  have HS1 := Aside0.mk hs1
  have HW0 := Aside0.mk hW
  clear hr0 hlen hs1 hW
  refine callsIn_of_wp Tryz.func69 rfl h7 ?_ hro
  simp only [Tryz.ntmps69, List.size_toArray, List.length_cons, List.length_nil, Nat.reduceAdd, Nat.reduceSub, Array.replicate_succ, Array.replicate_zero, List.push_toArray, List.append_toArray, List.nil_append, List.cons_append]
  gi_wp2
  gi_loopw [3] (fun i wr => ∃ (k : Nat) (x : Int), i = .int .i64 x ∧ Aside0 (k ≤ l0.length ∧ x = (l0.length : Int) - 1 - k) ∧ J (upto f k) wr ∧ Aside0 (Below w0.heap.size w0 wr) ∧ wr.cell? ⟨Bs, 0, none⟩ = some (.slice A0 l0.length c0))
    (fun i _ => (intOf i + 1).toNat)
  case atStart => exact ⟨0, _, rfl, ⟨Nat.zero_le _, by first | (rw [HS1.out]; omega) | omega⟩, h0, HW0, hBs⟩
  case round =>
    obtain ⟨k, x, rfl, HX, hJs, HW, hBs'⟩ := hrel
    by_cases hlt : k < l0.length
    · obtain ⟨fn, tmps, assign, body, hy, hR⟩ := hY _ (f k) wr hJs (by rw [upto_length]; exact hlt)
      have hx := HX.out
      have ex : enc (f k) = (x, rd l0 x) := by rw [hf k hlt]; simp [bk, hx.2]
      rw [ex] at hy
      have p1 : 0 ≤ x := by omega
      have q1 : x < (l0.length : Int) := by omega
      have hb : decide (0 ≤ x) = true := decide_eq_true p1
      obtain ⟨ad, e, hcs⟩ := Kd.at_int (Kd.C_below HR0.out HW.out) x p1 q1
      cases e
      have hw : wrap64 (x - 1) = x - 1 := Go.IntWalk.wrap64_in _ (by have := HL.out; omega)
      have HK := Aside0.mk hlt
      have HWR := Aside0.mk hw
      clear hx hw hlt ex
      replace p1 := eq_true p1
      replace q1 := eq_true q1
      gi_wp2
      refine hR.mono ?_
      rintro e W3 (⟨rfl, hJ3, hk3⟩ | ⟨rfl, hJx3⟩)
      · gi_wp2
        go_roundw
        case rel => exact ⟨k + 1, _, rfl, ⟨by have := HK.out; omega, by have := HX.out; first | (rw [HWR.out]; omega) | omega⟩, by rw [upto_succ]; exact hJ3, ⟨HW.out.trans hk3.1⟩, hk3.2 _ hBs'⟩
        case measure =>
          have := HX.out
          have := HK.out
          have := HWR.out
          simp [intOf]
          omega
      · gi_wp2
        refine bodyPost_ret (results_none rfl _ _ _) rfl ?_
        exact ⟨⟨_, rfl⟩, .inr ⟨_, trivial, hJx3⟩⟩
    · have hx := HX.out
      obtain rfl : k = l0.length := by omega
      have hb : decide (0 ≤ x) = false := decide_eq_false (by omega)
      clear hx HX
      gi_wp2
      go_end0
      exact ⟨⟨_, rfl⟩, .inl ⟨_, rfl, hJs⟩⟩
set_option maxHeartbeats 1000000 in
theorem bk_in (F : Fence) (n : Nat) (h5 : F.fn 46) (hro : F.round = none) (a : Option Addr) (len cap : Nat) (w : World) :
    CallsIn F n Tryz.prog 46 #[.slice a len cap] w fun e w' => e = .returned (.func (.func 69) #[] #[.pointer (some ⟨w.heap.size, 0, none⟩)]) ∧ w' = w.alloc (.cells #[.slice a len cap] 23) := by
  refine callsIn_of_wp Tryz.func46 rfl h5 ?_ hro
  simp only [Tryz.ntmps46, List.size_toArray, List.length_cons, List.length_nil, Nat.reduceAdd, Nat.reduceSub, Array.replicate_succ, Array.replicate_zero, List.push_toArray, List.append_toArray, List.nil_append, List.cons_append]
  gi_wp2
  go_ret
  exact ⟨rfl, rfl⟩
/-- slices.Backward(s) hands back a value that goes over all of s, from behind. -/
theorem bk_stops {α : Type} (enc : α → Int × Int) (f : Nat → α) (F : Fence) (n : Nat) (h7 : F.fn 69) (hro : F.round = none) (hn : 1 ≤ n) (Bs : Nat) (A0 : Option Addr) (c0 : Nat) (l0 : List Int) (hf : ∀ k, k < l0.length → enc (f k) = bk l0 k) (w0 : World) (hr0 : Kd.C (Kd.int .u8) w0 A0 l0.length l0) (w : World) (hB : Below w0.heap.size w0 w) (hBs : Bs < w.heap.size)
    (hc : w.cell? ⟨Bs, 0, none⟩ = some (.slice A0 l0.length c0)) :
    SeqStopsK F n Tryz.prog 69 #[.pointer (some ⟨Bs, 0, none⟩)] (fun x : α => #[Value.int .i64 (enc x).1, Value.int .u8 (enc x).2]) (KB w0.heap.size Bs) (fun ys => ys = upto f l0.length) (fun _ => True) l0.length w := fun lp J Jx W hW _ _ hY h0 =>
  bk1_in enc f F n h7 hro hn lp Bs A0 c0 l0 hf w0 hr0 J Jx hY W (hB.trans (hW.mono hB.size)) ((hW.cell (p := ⟨Bs, 0, none⟩) hBs).trans hc) h0
end Go.Proofs.YtdgillfbdlmloaaGreatDoor.P
