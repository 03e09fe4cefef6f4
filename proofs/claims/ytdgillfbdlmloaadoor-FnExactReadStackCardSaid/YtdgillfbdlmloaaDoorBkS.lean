/- slices.Backward over texts: what its closure hands on, round by round. -/
import Derived.Test.YtdgillfbdlmloaaDoorGivK6
import Derived.RangeFuncBox
import Derived.RangeFuncNested
import Derived.RangeFuncBound
import Derived.RangeFuncCalls
import Derived.RangeFuncLeaves
import Derived.Shelf.Abstract
import Derived.OwnWalkIn
import Derived.TacticsInMore
import Derived.LoopNIn
import Derived.LoopIn
namespace Go.Proofs.YtdgillfbdlmloaaDoor.P
open Go.RowKit Go.Shelf Go.Proofs.YtdgillfbdlmloaaDoorW.PrintWords Go.Proofs.YtdgillfbdlmloaaDoorW.PrintLast Go.Proofs.YtdgillfbdlmloaaDoorW.PrintMore
attribute [local go_sem] Oper.semAt_some
set_option linter.unusedVariables false
set_option linter.unusedSimpArgs false
/-- The j-th that comes, from behind. -/
def bkS (l : List ByteArray) (j : Nat) : Int × ByteArray := ((l.length : Int) - 1 - j, rdOf ByteArray.empty l ((l.length : Int) - 1 - j))
set_option maxRecDepth 100000 in
set_option maxHeartbeats 4000000 in
theorem bkS1_in {α : Type} (enc : α → Int × ByteArray) (f : Nat → α) (F : Fence) (n : Nat) (h7 : F.fn 79) (hro : F.round = none) (hn : 1 ≤ n) (lp Bs : Nat) (A0 : Option Addr) (c0 : Nat) (l0 : List ByteArray) (hf : ∀ k, k < l0.length → enc (f k) = bkS l0 k) (hlen : (l0.length : Int) ≤ 9223372036854775807) (Q : World → Prop) (hQ : ∀ W, Q W → Kd.C Kd.string W A0 l0.length l0 ∧ W.cell? ⟨Bs, 0, none⟩ = some (.slice A0 l0.length c0)) (Kp : World → World → Prop) (hK : ∀ W W', Kp W W' → Q W → Q W') (J Jx : List α → World → Prop)
    (hY : ∀ pre x W, J pre W → pre.length < l0.length → YieldAt F (n - 1) Tryd.prog lp #[.int .i64 (enc x).1, .string (enc x).2] W fun e W' =>
      (e = .returned (.bool true) ∧ J (pre ++ [x]) W' ∧ Kp W W') ∨ (e = .returned (.bool false) ∧ Jx (pre ++ [x]) W'))
    (W : World) (hQ0 : Q W) (h0 : J [] W) :
    CallsIn F n Tryd.prog 79 #[.func (.yield lp) #[] #[], .pointer (some ⟨Bs, 0, none⟩)] W fun e W' => (∃ v, e = .returned v) ∧
      ((∃ ys, ys = upto f l0.length ∧ J ys W') ∨ (∃ pre, (∃ k, k ≤ l0.length ∧ pre = upto f k) ∧ Jx pre W')) := by
  have HL := Aside0.mk hlen
  have hs1 : wrap64 ((l0.length : Int) - 1) = (l0.length : Int) - 1 := Go.IntWalk.wrap64_in _ (by omega)
  have HS1 := Aside0.mk hs1
  have HQ0 := Aside0.mk hQ0
  have hBs := (hQ W hQ0).2
  clear hlen hs1 hQ0
  refine callsIn_of_wp Tryd.func79 rfl h7 ?_ hro
  simp only [Tryd.ntmps79, List.size_toArray, List.length_cons, List.length_nil, Nat.reduceAdd, Nat.reduceSub, Array.replicate_succ, Array.replicate_zero, List.push_toArray, List.append_toArray, List.nil_append, List.cons_append]
  gi_wp2
  gi_loopw [3] (fun i wr => ∃ (k : Nat) (x : Int), i = .int .i64 x ∧ Aside0 (k ≤ l0.length ∧ x = (l0.length : Int) - 1 - k) ∧ J (upto f k) wr ∧ Aside0 (Q wr))
    (fun i _ => (intOf i + 1).toNat)
  case atStart => exact ⟨0, _, rfl, ⟨Nat.zero_le _, by first | (rw [HS1.out]; omega) | omega⟩, h0, HQ0⟩
  case round =>
    clear hBs
    obtain ⟨k, x, rfl, HX, hJs, HQ⟩ := hrel
    obtain ⟨hC, hBs⟩ := hQ wr HQ.out
    by_cases hlt : k < l0.length
    · obtain ⟨fn, tmps, assign, body, hy, hR⟩ := hY _ (f k) wr hJs (by rw [upto_length]; exact hlt)
      have hx := HX.out
      have ex : enc (f k) = (x, rdOf ByteArray.empty l0 x) := by rw [hf k hlt]; simp [bkS, hx.2]
      rw [ex] at hy
      have p1 : 0 ≤ x := by omega
      have q1 : x < (l0.length : Int) := by omega
      have hb : decide (0 ≤ x) = true := decide_eq_true p1
      obtain ⟨ad, e, hcs⟩ := Kd.at_string hC x p1 q1
      cases e
      have hw : wrap64 (x - 1) = x - 1 := Go.IntWalk.wrap64_in _ (by have := HL.out; omega)
      have HKK := Aside0.mk hlt
      have HWR := Aside0.mk hw
      clear hx hw hlt ex hC
      replace p1 := eq_true p1
      replace q1 := eq_true q1
      gi_wp2
      refine hR.mono ?_
      rintro e W3 (⟨rfl, hJ3, hk3⟩ | ⟨rfl, hJx3⟩)
      · gi_wp2
        go_roundw
        case rel => exact ⟨k + 1, _, rfl, ⟨by have := HKK.out; omega, by have := HX.out; first | (rw [HWR.out]; omega) | omega⟩, by rw [upto_succ]; exact hJ3, ⟨hK _ _ hk3 HQ.out⟩⟩
        case measure =>
          have := HX.out
          have := HKK.out
          have := HWR.out
          simp [intOf]
          omega
      · gi_wp2
        refine bodyPost_ret (results_none rfl _ _ _) rfl ?_
        exact ⟨⟨_, rfl⟩, .inr ⟨_, ⟨k + 1, HKK.out, (upto_succ _ _).symm⟩, hJx3⟩⟩
    · have hx := HX.out
      obtain rfl : k = l0.length := by omega
      have hb : decide (0 ≤ x) = false := decide_eq_false (by omega)
      clear hx HX
      gi_wp2
      go_end0
      exact ⟨⟨_, rfl⟩, .inl ⟨_, rfl, hJs⟩⟩
set_option maxHeartbeats 1000000 in
theorem bkS_in (F : Fence) (n : Nat) (h5 : F.fn 49) (hro : F.round = none) (a : Option Addr) (len cap : Nat) (w : World) :
    CallsIn F n Tryd.prog 49 #[.slice a len cap] w fun e w' => e = .returned (.func (.func 79) #[] #[.pointer (some ⟨w.heap.size, 0, none⟩)]) ∧ w' = w.alloc (.cells #[.slice a len cap] 60) := by
  refine callsIn_of_wp Tryd.func49 rfl h5 ?_ hro
  simp only [Tryd.ntmps49, List.size_toArray, List.length_cons, List.length_nil, Nat.reduceAdd, Nat.reduceSub, Array.replicate_succ, Array.replicate_zero, List.push_toArray, List.append_toArray, List.nil_append, List.cons_append]
  gi_wp2
  go_ret
  exact ⟨rfl, rfl⟩
/-- slices.Backward(s) hands back a value that goes over all of s, from behind. -/
theorem bkS_stops {α : Type} (enc : α → Int × ByteArray) (f : Nat → α) (F : Fence) (n : Nat) (h7 : F.fn 79) (hro : F.round = none) (hn : 1 ≤ n) (Bs : Nat) (A0 : Option Addr) (c0 : Nat) (l0 : List ByteArray) (hf : ∀ k, k < l0.length → enc (f k) = bkS l0 k) (hlen : (l0.length : Int) ≤ 9223372036854775807) (Q : World → Prop) (hQ : ∀ W, Q W → Kd.C Kd.string W A0 l0.length l0 ∧ W.cell? ⟨Bs, 0, none⟩ = some (.slice A0 l0.length c0)) (Kp : World → World → Prop) (hK : ∀ W W', Kp W W' → Q W → Q W') (w : World) (hQw : ∀ W, Below w.heap.size w W → Q W) :
    SeqStopsK F n Tryd.prog 79 #[.pointer (some ⟨Bs, 0, none⟩)] (fun x : α => #[Value.int .i64 (enc x).1, Value.string (enc x).2]) Kp (fun ys => ys = upto f l0.length) (fun pre => ∃ k, k ≤ l0.length ∧ pre = upto f k) l0.length w := fun lp J Jx W hW _ _ hY h0 =>
  bkS1_in enc f F n h7 hro hn lp Bs A0 c0 l0 hf hlen Q hQ Kp hK J Jx hY W (hQw W hW) h0
/-- The texts lie in a block, and their slice in a box. -/
def QS (gs Bs : Nat) (ws : List ByteArray) (W : World) : Prop := W.heap[gs]? = some (.cells (ws.map Value.string).toArray 9 (0, 0)) ∧ W.heap[Bs]? = some (.cells #[.slice (some ⟨gs, 0, none⟩) ws.length ws.length] 60 (0, 0))
theorem QS_reads {gs Bs : Nat} {ws : List ByteArray} (hl : ws.length ≤ 9223372036854775807) {W : World} (h : QS gs Bs ws W) : Kd.C Kd.string W (some ⟨gs, 0, none⟩) ws.length ws ∧ W.cell? ⟨Bs, 0, none⟩ = some (.slice (some ⟨gs, 0, none⟩) ws.length ws.length) := by
  refine ⟨?_, (blk_cell h.2 0).trans rfl⟩
  have ho : W.ownsRow 0 9 1 (.slice (some ⟨gs, 0, none⟩) ws.length ws.length) ws.length (encs Value.string ws) := ⟨by simp [encs], .inr ⟨gs, ws.length, (ws.map Value.string).toArray, rfl, Nat.zero_le _, h.1, Nat.le_refl _, by unfold maxLen; omega, by simp, by simp only [encs, Nat.mul_one]; exact List.take_of_length_le (by simp)⟩⟩
  exact (Kd.R_reads' (ok := fun _ => True) (Kd.R_of_own (h1 := fun _ => rfl) ho (fun _ _ => trivial))).2.2
theorem QS_below {gs Bs : Nat} {ws : List ByteArray} {W W' : World} (h : QS gs Bs ws W) (hb : Below W.heap.size W W') : QS gs Bs ws W' := ⟨(hb.block _ (Array.getElem?_eq_some_iff.1 h.1).1).trans h.1, (hb.block _ (Array.getElem?_eq_some_iff.1 h.2).1).trans h.2⟩
/-- What a round keeps: what lay below, and the texts. -/
def KQ (n₀ gs Bs : Nat) (ws : List ByteArray) (W W' : World) : Prop := Below n₀ W W' ∧ (QS gs Bs ws W → QS gs Bs ws W')
theorem KQ_t {n₀ gs Bs : Nat} {ws : List ByteArray} {A B C : World} (h : KQ n₀ gs Bs ws A B) (k : KQ n₀ gs Bs ws B C) : KQ n₀ gs Bs ws A C := ⟨h.1.trans k.1, fun hq => k.2 (h.2 hq)⟩
theorem blk_put {W : World} {l B : Nat} {o o' ob : Obj} (hl : W.heap[l]? = some o) (h1 : o.isCells = false) (hB : W.heap[B]? = some ob) (hc : ob.isCells = true) : (W.putObj l o').heap[B]? = some ob := by
  have hne : B ≠ l := fun e => by
    subst e
    rw [hl] at hB
    cases hB
    rw [h1] at hc
    cases hc
  exact ((grownBy_putObj' W l o').block B (Array.getElem?_eq_some_iff.1 hB).1 (fun e => hne (Option.some.inj e))).trans hB
theorem QS_put {gs Bs : Nat} {ws : List ByteArray} {W : World} {l : Nat} {o o' : Obj} (hl : W.heap[l]? = some o) (h1 : o.isCells = false) (h : QS gs Bs ws W) : QS gs Bs ws (W.putObj l o') := ⟨blk_put hl h1 h.1 rfl, blk_put hl h1 h.2 rfl⟩
theorem KQ_b {n₀ gs Bs : Nat} {ws : List ByteArray} {w : World} (hn : n₀ ≤ w.heap.size) (W : World) (l : Nat) (o o' : Obj) (hl : w.heap.size ≤ l) (h : W.heap[l]? = some o) (h1 : o.isCells = false) (h2 : o.isWalk = false) : KQ n₀ gs Bs ws W (W.putObj l o') :=
  ⟨belowK_b hn W l o o' hl h h1 h2, QS_put h h1⟩
end Go.Proofs.YtdgillfbdlmloaaDoor.P
