/- A train backwards, as the program reckons it: a range over slices.Backward. -/
import Derived.Test.YtdkkmoigampfoaaTrainA
import Derived.RangeFuncBox
import Derived.RangeFuncNested
import Derived.RangeFuncBound
import Derived.RangeFuncCalls
import Derived.RangeFuncLeaves
import Derived.Shelf.Abstract
import Derived.Shelf.RegionOpen
import Derived.OwnWalkIn
import Derived.TacticsInMore
import Derived.LoopNIn
import Derived.LoopIn
import Derived.IntWalk
import Derived.Maps.AppendAt
namespace Go.Proofs.Ytdkkmoigampfoaa.P
open Go.RowKit Go.Shelf Go.Proofs.YtdkkmoigampfoaaW.PrintWords Go.Proofs.YtdkkmoigampfoaaW.PrintLast Go.Proofs.YtdkkmoigampfoaaW.PrintMore
attribute [local go_sem] Oper.semAt_some
set_option linter.unusedVariables false
set_option linter.unusedSimpArgs false
abbrev SP := S49
/-- What has come when k rounds are over. -/
def uptoT {α : Type} (f : Nat → α) (k : Nat) : List α := (List.range k).map f
theorem uptoT_succ {α : Type} (f : Nat → α) (k : Nat) : uptoT f (k + 1) = uptoT f k ++ [f k] := by simp [uptoT, List.range_succ]
theorem uptoT_length {α : Type} (f : Nat → α) (k : Nat) : (uptoT f k).length = k := by simp [uptoT]
/-- The j-th that comes, from behind. -/
def bkT (l : List SP) (j : Nat) : Int × SP := ((l.length : Int) - 1 - j, rd_T49 l ((l.length : Int) - 1 - j))
/-- What a round keeps: what lay below, and the box of the slice. -/
def KB (n₀ Bs : Nat) (W W' : World) : Prop := Below n₀ W W' ∧ ∀ v, W.cell? ⟨Bs, 0, none⟩ = some v → W'.cell? ⟨Bs, 0, none⟩ = some v
theorem KB_t {n₀ Bs : Nat} {A B C : World} (h : KB n₀ Bs A B) (k : KB n₀ Bs B C) : KB n₀ Bs A C := ⟨h.1.trans k.1, fun v hv => k.2 v (h.2 v hv)⟩
theorem KB_b {n₀ Bs : Nat} {w : World} (hn : n₀ ≤ w.heap.size) (hb : Bs < w.heap.size) (W : World) (l : Nat) (o o' : Obj) (hl : w.heap.size ≤ l) (h : W.heap[l]? = some o) (h1 : o.isCells = false) (h2 : o.isWalk = false) : KB n₀ Bs W (W.putObj l o') :=
  ⟨belowK_b hn W l o o' hl h h1 h2, fun v hv => cell_kept hv (grownBy_putObj' W l o') (fun r e => by cases e; exact ⟨o, h, h1⟩)⟩
set_option maxRecDepth 100000 in
set_option maxHeartbeats 4000000 in
theorem bkT1_in (F : Fence) (n : Nat) (h7 : F.fn 54) (hro : F.round = none) (hn : 1 ≤ n) (lp Bs : Nat) (A0 : Option Addr) (c0 : Nat) (l0 : List SP) (w0 : World) (hr0 : Kd.C k49 w0 A0 l0.length l0) (J Jx : List (Int × SP) → World → Prop)
    (hY : ∀ pre x W, J pre W → pre.length < l0.length → YieldAt F (n - 1) Try.prog lp #[.int .i64 x.1, .agg #[.int .i16 x.2.f0, .int .i16 x.2.f1]] W fun e W' =>
      (e = .returned (.bool true) ∧ J (pre ++ [x]) W' ∧ KB w0.heap.size Bs W W') ∨ (e = .returned (.bool false) ∧ Jx (pre ++ [x]) W'))
    (W : World) (hW : Below w0.heap.size w0 W) (hBs : W.cell? ⟨Bs, 0, none⟩ = some (.slice A0 l0.length c0)) (h0 : J [] W) :
    CallsIn F n Try.prog 54 #[.func (.yield lp) #[] #[], .pointer (some ⟨Bs, 0, none⟩)] W fun e W' => (∃ v, e = .returned v) ∧
      ((∃ ys, ys = uptoT (bkT l0) l0.length ∧ J ys W') ∨ (∃ pre, True ∧ Jx pre W')) := by
  have hlen : (l0.length : Int) ≤ 9223372036854775807 := by have := hr0.2.1; omega
  have HL := Aside0.mk hlen
  have HR0 := Aside0.mk hr0
  have hs1 : wrap64 ((l0.length : Int) - 1) = (l0.length : Int) - 1 := Go.IntWalk.wrap64_in _ (by omega)
  have HS1 := Aside0.mk hs1
  have HW0 := Aside0.mk hW
  clear hr0 hlen hs1 hW
  refine callsIn_of_wp Try.func54 rfl h7 ?_ hro
  simp only [Try.ntmps54, List.size_toArray, List.length_cons, List.length_nil, Nat.reduceAdd, Nat.reduceSub, Array.replicate_succ, Array.replicate_zero, List.push_toArray, List.append_toArray, List.nil_append, List.cons_append]
  gi_wp2
  gi_loopw [3] (fun i wr => ∃ (k : Nat) (x : Int), i = .int .i64 x ∧ Aside0 (k ≤ l0.length ∧ x = (l0.length : Int) - 1 - k) ∧ J (uptoT (bkT l0) k) wr ∧ Aside0 (Below w0.heap.size w0 wr) ∧ wr.cell? ⟨Bs, 0, none⟩ = some (.slice A0 l0.length c0))
    (fun i _ => (intOf i + 1).toNat)
  case atStart => exact ⟨0, _, rfl, ⟨Nat.zero_le _, by first | (rw [HS1.out]; omega) | omega⟩, h0, HW0, hBs⟩
  case round =>
    obtain ⟨k, x, rfl, HX, hJs, HW, hBs'⟩ := hrel
    by_cases hlt : k < l0.length
    · obtain ⟨fn, tmps, assign, body, hy, hR⟩ := hY _ (bkT l0 k) wr hJs (by rw [uptoT_length]; exact hlt)
      have hx := HX.out
      have ex : bkT l0 k = (x, rd_T49 l0 x) := by simp [bkT, hx.2]
      rw [ex] at hy
      have p1 : 0 ≤ x := by omega
      have q1 : x < (l0.length : Int) := by omega
      have hb : decide (0 ≤ x) = true := decide_eq_true p1
      obtain ⟨ad, e, hcell0, hcell1⟩ := at_T49 (Kd.C_below HR0.out HW.out) x p1 q1
      cases e
      have hw : wrap64 (x - 1) = x - 1 := Go.IntWalk.wrap64_in _ (by have := HL.out; omega)
      have HK := Aside0.mk hlt
      have HWR := Aside0.mk hw
      clear hx hw hlt ex
      replace p1 := eq_true p1
      replace q1 := eq_true q1
      gi_wp2
      refine hR.mono ?_
      rintro e W3 (⟨rfl, hJ3, hk3⟩ | ⟨rfl, hJx3⟩)
      · gi_wp2
        go_roundw
        case rel => exact ⟨k + 1, _, rfl, ⟨by have := HK.out; omega, by have := HX.out; first | (rw [HWR.out]; omega) | omega⟩, by rw [uptoT_succ]; exact hJ3, ⟨HW.out.trans hk3.1⟩, hk3.2 _ hBs'⟩
        case measure =>
          have := HX.out
          have := HK.out
          have := HWR.out
          simp [intOf]
          omega
      · gi_wp2
        refine bodyPost_ret (results_none rfl _ _ _) rfl ?_
        exact ⟨⟨_, rfl⟩, .inr ⟨_, trivial, hJx3⟩⟩
    · have hx := HX.out
      obtain rfl : k = l0.length := by omega
      have hb : decide (0 ≤ x) = false := decide_eq_false (by omega)
      clear hx HX
      gi_wp2
      go_end0
      exact ⟨⟨_, rfl⟩, .inl ⟨_, rfl, hJs⟩⟩
set_option maxHeartbeats 1000000 in
theorem bkT_in (F : Fence) (n : Nat) (h5 : F.fn 42) (hro : F.round = none) (a : Option Addr) (len cap : Nat) (w : World) :
    CallsIn F n Try.prog 42 #[.slice a len cap] w fun e w' => e = .returned (.func (.func 54) #[] #[.pointer (some ⟨w.heap.size, 0, none⟩)]) ∧ w' = w.alloc (.cells #[.slice a len cap] 26) := by
  refine callsIn_of_wp Try.func42 rfl h5 ?_ hro
  simp only [Try.ntmps42, List.size_toArray, List.length_cons, List.length_nil, Nat.reduceAdd, Nat.reduceSub, Array.replicate_succ, Array.replicate_zero, List.push_toArray, List.append_toArray, List.nil_append, List.cons_append]
  gi_wp2
  go_ret
  exact ⟨rfl, rfl⟩
/-- slices.Backward(t) hands back a value that goes over all of t, from behind. -/
theorem bkT_stops (F : Fence) (n : Nat) (h7 : F.fn 54) (hro : F.round = none) (hn : 1 ≤ n) (Bs : Nat) (A0 : Option Addr) (c0 : Nat) (l0 : List SP) (w0 : World) (hr0 : Kd.C k49 w0 A0 l0.length l0) (w : World) (hB : Below w0.heap.size w0 w) (hBs : Bs < w.heap.size)
    (hc : w.cell? ⟨Bs, 0, none⟩ = some (.slice A0 l0.length c0)) :
    SeqStopsK F n Try.prog 54 #[.pointer (some ⟨Bs, 0, none⟩)] (fun x : Int × SP => #[Value.int .i64 x.1, Value.agg #[Value.int .i16 x.2.f0, Value.int .i16 x.2.f1]]) (KB w0.heap.size Bs) (fun ys => ys = uptoT (bkT l0) l0.length) (fun _ => True) l0.length w := fun lp J Jx W hW _ _ hY h0 =>
  bkT1_in F n h7 hro hn lp Bs A0 c0 l0 w0 hr0 J Jx hY W (hB.trans (hW.mono hB.size)) ((hW.cell (p := ⟨Bs, 0, none⟩) hBs).trans hc) h0
/-- The cells of what has come, turned round. -/
def flatT (l : List (Int × SP)) : List Value := l.flatMap fun x => [Value.int .i16 x.2.f1, Value.int .i16 x.2.f0]
theorem flatT_snoc (l : List (Int × SP)) (x : Int × SP) : flatT (l ++ [x]) = flatT l ++ [Value.int .i16 x.2.f1, Value.int .i16 x.2.f0] := by simp [flatT]
theorem blk_kept {W W' : World} {row : Option Nat} {B : Nat} {o : Obj} (h : W.heap[B]? = some o) (hg : W.grownBy W' row) (hne : some B ≠ row) : W'.heap[B]? = some o := (hg.block B (Array.getElem?_eq_some_iff.1 h).1 hne).trans h
theorem cell_two_new (w : World) (x y : Value) (t : TypeId) : ∀ j u, [x, y][j]? = some u → (w.alloc (.cells #[x, y] t)).cell? ((⟨w.heap.size, 0, none⟩ : Addr).add j) = some u := by
  intro j u hj
  match j, hj with
  | 0, hj =>
    have := blk_cell (blk_new w (.cells #[x, y] t)) 0
    simp at hj
    subst hj
    exact this
  | 1, hj =>
    have := blk_cell (blk_new w (.cells #[x, y] t)) 1
    simp at hj
    subst hj
    exact this
theorem boxed_beside {W w1 : World} {n₀ B t e size k : Nat} {s v : Value} {xs : List Value} {tmp : Obj} (hS : Boxed W B t s) (hte : t ≠ e) (hrow : W.ownsRow n₀ e size v k xs) (hgrow : (W.alloc tmp).grownBy w1 v.ownBlock) : Boxed w1 B t s := (hS.alloc tmp).kept hgrow (hS.not_row hte hrow)
set_option maxRecDepth 100000 in
set_option maxHeartbeats 4000000 in
theorem backT_in (n : Nat) (hn : 3 ≤ n) (A0 : Option Addr) (c0 : Nat) (l0 : List SP) (w : World) (hr0 : Kd.C k49 w A0 l0.length l0) (hc0 : l0.length ≤ c0) (hv : impl_ValidTrain.f l0 = some true) (h4 : l0.length ≤ 4) :
    CallsIn Fence.wide n Try.prog 21 #[.slice A0 l0.length c0] w fun e W' => ∃ v, e = .returned (.tuple #[v, .int .i64 0]) ∧ W'.ownsRow w.heap.size 49 2 v l0.length (flatT (uptoT (bkT l0) l0.length)) ∧ Below w.heap.size w W' := by
  have h1 : 1 ≤ n := by omega
  have HV := Aside0.mk hv
  have HR0 := Aside0.mk hr0
  have HC0 := Aside0.mk hc0
  have hro : Fence.wide.round = none := rfl
  have hf1 : Fence.wide.fn 17 := trivial
  have hf2 : Fence.wide.fn 42 := trivial
  clear hv hr0 hc0
  refine callsIn_of_wp_marks Try.func21 rfl trivial ?_ hro
  simp only [Try.ntmps21, List.size_toArray, List.length_cons, List.length_nil, Nat.reduceAdd, Nat.reduceSub, Array.replicate_succ, Array.replicate_zero, List.push_toArray, List.append_toArray, List.nil_append, List.cons_append]
  gi_wp2_with (first | (gi_at_call 17; refine ((callsIn_wide (n := n - 1)).2 (impl_ValidTrain.calls A0 c0 l0 true _ HR0.out HC0.out HV.out)).mono ?_; rintro e w1 ⟨rfl, hb1⟩; have HB1 := Aside0.mk hb1; clear hb1) | (gi_at_call 42; refine (bkT_in Fence.wide (n - 1) trivial hro _ _ _ _).mono ?_; rintro e w' ⟨rfl, rfl⟩))
  obtain ⟨g, hg⟩ : ∃ g, g = w1.heap.size := ⟨_, rfl⟩
  have hwg : w.heap.size ≤ g := by rw [hg]; exact HB1.out.size
  have hE := blk_alloc (blk_alloc (blk_new w1 (.cells #[] 49)) (.cells #[.slice (some ⟨w1.heap.size, 0, none⟩) 0 0] 26)) (.cells #[.slice A0 l0.length c0] 26)
  have bN := Boxed.new ((w1.alloc (.cells #[] 49)).alloc (.cells #[.slice (some ⟨w1.heap.size, 0, none⟩) 0 0] 26)) 26 (.slice A0 l0.length c0)
  have bO := (Boxed.new (w1.alloc (.cells #[] 49)) 26 (.slice (some ⟨w1.heap.size, 0, none⟩) 0 0)).alloc (.cells #[.slice A0 l0.length c0] 26)
  simp only [World.size_alloc] at bN bO
  have hB0 : Below w.heap.size w (((w1.alloc (.cells #[] 49)).alloc (.cells #[.slice (some ⟨w1.heap.size, 0, none⟩) 0 0] 26)).alloc (.cells #[.slice A0 l0.length c0] 26)) := ((HB1.out.alloc HB1.out.size _).alloc (by have := HB1.out.size; simp; omega) _).alloc (by have := HB1.out.size; simp; omega) _
  have hSz : (((w1.alloc (.cells #[] 49)).alloc (.cells #[.slice (some ⟨w1.heap.size, 0, none⟩) 0 0] 26)).alloc (.cells #[.slice A0 l0.length c0] 26)).heap.size = g + 3 := by simp [hg]
  rw [← hg] at hE bN bO hB0 hSz ⊢
  obtain ⟨W0, hW0⟩ : ∃ W0, W0 = (((w1.alloc (.cells #[] 49)).alloc (.cells #[.slice (some ⟨g, 0, none⟩) 0 0] 26)).alloc (.cells #[.slice A0 l0.length c0] 26)) := ⟨_, rfl⟩
  rw [← hW0] at hE bN bO hB0 hSz ⊢
  clear hW0 hg HB1
  refine wpIn_rangeFunc_ownH hro h1 (gf := 54) (lb := #[.pointer (some ⟨g + 1 + 1, 0, none⟩)]) rfl trivial (enters_of Try.func54 (by kernel_rfl) rfl)
    (bkT_stops Fence.wide (n - 1) trivial hro (by omega) (g + 1 + 1) A0 c0 l0 w HR0.out W0 hB0 (by omega) bN.cell) (fun h k => KB_t h k) (KB_b (by omega) (by omega)) (Below.refl _ _) (fun _ => rfl)
    (fun pre W => (∃ v, Boxed W (g + 1) 26 v ∧ W.ownsRow w.heap.size 49 2 v pre.length (flatT pre) ∧ True) ∧ Boxed W (g + 1 + 1) 26 (.slice A0 l0.length c0) ∧ Below w.heap.size w W)
    (fun _ _ _ => False)
    (OwnFrom.and (Own.from (holdsRow_own _ _ _ _ _ _ _ _) _) (OwnFrom.and (Own.from (boxed_own _ _ _) _) (ownFrom_below (Nat.le_refl _) (by omega))))
    (fun _ _ _ _ _ hs _ _ => hs)
    ⟨⟨_, bO, ⟨rfl, .inr ⟨g, 0, #[], rfl, hwg, hE, Nat.le_refl _, by unfold maxLen; omega, rfl, rfl⟩⟩, trivial⟩, bN, hB0⟩
    (fun x a' W => ∃ Bx, g + 1 + 1 < Bx ∧ W.heap[Bx]? = some (.cells #[.int .i16 x.2.f0, .int .i16 x.2.f1] 49 (0, 0)) ∧ a' = { tmps := #[.slice A0 l0.length c0, undef, .slice none 0 0, .int .i64 0, .pointer (some ⟨g + 1, 0, none⟩), undef, .pointer (some ⟨Bx, 0, none⟩), .slice A0 l0.length c0, .bool true, .bool false, .slice (some ⟨g, 0, none⟩) 0 0, .slice A0 l0.length c0, .func (.func 54) #[] #[.pointer (some ⟨g + 1 + 1, 0, none⟩)], .int .i64 x.1, .agg #[.int .i16 x.2.f0, .int .i16 x.2.f1], undef, undef, undef, undef, undef, undef, undef, undef, undef], defers := [] })
    (fun x a' _ A B row hs hgr hr => ?own) ?assign ?body ?done ?stop
  case own =>
    obtain ⟨Bx, b1, b2, b3⟩ := hs
    refine ⟨Bx, b1, blk_kept b2 hgr (fun e => ?_), b3⟩
    obtain ⟨_, o, ho, hc⟩ := hr Bx e.symm
    rw [b2] at ho
    cases ho
    cases hc
  case assign =>
    rintro l pre x W K ⟨⟨v, hv, hrow, _⟩, hS, hB⟩ hK
    gi_wp2
    refine hK _ _ ((KeepsOthers.alloc _ _).from _) ⟨(Below.refl _ W).alloc hB.size _, fun u hu => ?_⟩ ⟨⟨v, hv.alloc _, hrow.alloc _, trivial⟩, hS.alloc _, hB.alloc hB.size _⟩ ⟨W.heap.size, hS.lt, blk_new W _, rfl⟩
    rw [hS.cell] at hu
    cases hu
    exact (hS.alloc _).cell
  case body =>
    rintro l pre x a' W hl ⟨r, hr⟩ ⟨⟨v, hv, hrow, _⟩, hS, hB⟩ ⟨Bx, hBx, bX, rfl⟩ hlt
    have hc := hv.cell
    have hf := hv.frozen
    have hp0 : W.cell? ⟨Bx, 0, none⟩ = some (.int .i16 x.2.f0) := blk_cell bX 0
    have hp1 : W.cell? ⟨Bx, 1, none⟩ = some (.int .i16 x.2.f1) := blk_cell bX 1
    obtain ⟨i0, hi, hz0, hz1, hz2⟩ := info_parts info49
    gi_wp2_with (gi_at_builtin; refine wpListIn_append_own _ rfl _ _ 26 rfl w.heap.size 49 i0 _ 2 4 Try.underlying26 hi hz0 hz1 hz2 rfl (by decide) _ _ _ rfl (hrow.alloc _) ⟨W.heap.size, 0, none⟩ 1 1 [.int .i16 x.2.f1, .int .i16 x.2.f0] rfl rfl (cell_two_new _ _ _ _) (by simp [Value.oneCell']) (by unfold maxLen; omega) (by omega) (by have := hB.size; simp; omega) ?_; intro v' w2 hown' hgrow _; obtain ⟨g', cap', rfl⟩ := ownsRow_succ hown'; obtain ⟨hv1, hv2, hr2, hk2, hb2⟩ := hv.appended (by decide) hrow hB.size (by omega) hown' hgrow; have hc1 := hv1.cell; have hf1 := hv1.frozen)
    have hS2 := (boxed_beside hS (by decide) hrow hgrow).other (show g + 1 + 1 ≠ g + 1 by omega) (.slice (some ⟨g', 0, none⟩) (pre.length + 1) cap')
    refine ⟨hk2.from _, ⟨hb2, fun u hu => ?_⟩, ⟨⟨_, hv2, ?_, trivial⟩, hS2, hB.trans hb2⟩⟩
    · rw [hS.cell] at hu
      cases hu
      exact hS2.cell
    · rw [flatT_snoc, List.length_append]
      exact hr2
  case done =>
    rintro D ys W hD rfl ⟨⟨v, hv, hrow, _⟩, hS, hB⟩ hK
    have hvc := hv.cell
    gi_wp2
    refine ⟨by simp, .inl ⟨_, _, rfl, run_takeDeferred hK, ?_⟩⟩
    refine ⟨_, results_list (vs := [v, .int .i64 0]) rfl (by simp) (.tmp (.tmp .nil)), v, rfl, ?_, hB.trans (belowK_b (w := w) (Nat.le_refl _) W D _ _ (by omega) hK rfl rfl)⟩
    rw [uptoT_length] at hrow
    exact ownsRow_putObj hrow _ hK rfl
  case stop =>
    rintro _ _ _ _ _ _ h _
    exact h.elim
set_option maxHeartbeats 4000000 in
theorem backT_no (A0 : Option Addr) (c0 : Nat) (l0 : List SP) (w : World) (hr0 : Kd.C k49 w A0 l0.length l0) (hc0 : l0.length ≤ c0) (hv : impl_ValidTrain.f l0 = some false) :
    Calls Try.prog 21 #[.slice A0 l0.length c0] w fun e W' => e = .returned (.tuple #[.slice none 0 0, .int .i64 1]) ∧ Below w.heap.size w W' := by
  have HV := Aside0.mk hv
  have HR0 := Aside0.mk hr0
  have HC0 := Aside0.mk hc0
  clear hv hr0 hc0
  go_enter Try.func21, Try.ntmps21
  go_wp2_with (go_at_call 17; refine (impl_ValidTrain.calls A0 c0 l0 false _ HR0.out HC0.out HV.out).mono ?_; rintro e w1 ⟨rfl, hb1⟩; have HB1 := Aside0.mk hb1; clear hb1)
  go_ret2
  exact ⟨rfl, HB1.out⟩
def swapT (x : Int × SP) : SP := ⟨x.2.f1, x.2.f0⟩
theorem repsT (R : SP → List Value → Prop) (hR : ∀ a b, R ⟨a, b⟩ [.int .i16 a, .int .i16 b]) (f : Nat → Int × SP) : ∀ k, Reps R 2 ((uptoT f k).map swapT) (flatT (uptoT f k)) := by
  intro k
  induction k with
  | zero => exact Reps.none _ _
  | succ k ih =>
    rw [uptoT_succ, flatT_snoc, List.map_append]
    exact ih.snoc (hR _ _) rfl
def impl_BackTrain.f (l0 : List SP) : Option (List SP × Int) := (impl_ValidTrain.f l0).bind fun v => if v = true then (if l0.length ≤ 4 then some ((uptoT (bkT l0) l0.length).map swapT, 0) else none) else some ([], 1)
theorem impl_BackTrain.calls (A0 : Option Addr) (c0 : Nat) (l0 : List SP) (r1 : List SP) (r2 : Int) (w : World) (hr0 : Kd.C k49 w A0 l0.length l0) (hc0 : l0.length ≤ c0) (h : impl_BackTrain.f l0 = some (r1, r2)) :
    Calls Try.prog 21 #[.slice A0 l0.length c0] w fun e w' => ∃ v0_ : Value, e = .returned (.tuple #[v0_, .int .i64 r2]) ∧ Kd.R k49 49 w' w.heap.size (fun _ => True) v0_ r1 ∧ Below w.heap.size w w' := by
  unfold impl_BackTrain.f at h
  replace h := Option.bind_eq_some_iff.mp h
  obtain ⟨v, hv, h⟩ := h
  cases v with
  | false =>
    rw [if_neg (by decide)] at h
    injection h with h
    obtain ⟨rfl, rfl⟩ := Prod.mk.inj h
    refine (backT_no A0 c0 l0 w hr0 hc0 hv).mono ?_
    rintro e w' ⟨rfl, hb⟩
    exact ⟨_, rfl, Kd.R_nil _ _ _ _ _, hb⟩
  | true =>
    rw [if_pos rfl] at h
    split at h
    · rename_i h4
      injection h with h
      obtain ⟨rfl, rfl⟩ := Prod.mk.inj h
      refine ((Go.callsIn_wide (n := 3)).1 (backT_in 3 (Nat.le_refl _) A0 c0 l0 w hr0 hc0 hv h4)).mono ?_
      rintro e w' ⟨v, rfl, hrow, hb⟩
      refine ⟨v, rfl, ⟨fun _ _ => trivial, _, ?_, repsT _ (fun a b => ?_) _ _⟩, hb⟩
      · rw [List.length_map, uptoT_length]
        exact hrow
      · exact k49_mkM _ _ _ ⟨a, b⟩
    · cases h
end Go.Proofs.Ytdkkmoigampfoaa.P

