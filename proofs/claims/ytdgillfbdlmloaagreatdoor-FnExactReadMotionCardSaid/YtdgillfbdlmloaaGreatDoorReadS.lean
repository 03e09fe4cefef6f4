/- slices.Backward over texts: what its closure hands on, round by round. -/
import Derived.Test.YtdgillfbdlmloaaGreatDoorGivK6
import Derived.RangeFuncBox
import Derived.RangeFuncNested
import Derived.RangeFuncBound
import Derived.RangeFuncCalls
import Derived.RangeFuncLeaves
import Derived.Shelf.Abstract
import Derived.OwnWalkIn
import Derived.TacticsInMore
import Derived.LoopNIn
import Derived.LoopIn
import Derived.Test.YtdgillfbdlmloaaGreatDoorSplitS
namespace Go.Proofs.YtdgillfbdlmloaaGreatDoor.P
open Go.RowKit Go.Shelf Go.Proofs.YtdgillfbdlmloaaGreatDoorW.PrintWords Go.Proofs.YtdgillfbdlmloaaGreatDoorW.PrintLast Go.Proofs.YtdgillfbdlmloaaGreatDoorW.PrintMore
attribute [local go_sem] Oper.semAt_some
set_option linter.unusedVariables false
set_option linter.unusedSimpArgs false
/-- The j-th that comes, from behind. -/
def bkS (l : List ByteArray) (j : Nat) : Int × ByteArray := ((l.length : Int) - 1 - j, rdOf ByteArray.empty l ((l.length : Int) - 1 - j))
set_option maxRecDepth 100000 in
set_option maxHeartbeats 4000000 in
theorem bkS1_in {α : Type} (enc : α → Int × ByteArray) (f : Nat → α) (F : Fence) (n : Nat) (h7 : F.fn 42) (hro : F.round = none) (hn : 1 ≤ n) (lp Bs : Nat) (A0 : Option Addr) (c0 : Nat) (l0 : List ByteArray) (hf : ∀ k, k < l0.length → enc (f k) = bkS l0 k) (hlen : (l0.length : Int) ≤ 9223372036854775807) (Q : World → Prop) (hQ : ∀ W, Q W → Kd.C Kd.string W A0 l0.length l0 ∧ W.cell? ⟨Bs, 0, none⟩ = some (.slice A0 l0.length c0)) (Kp : World → World → Prop) (hK : ∀ W W', Kp W W' → Q W → Q W') (J Jx : List α → World → Prop)
    (hY : ∀ pre x W, J pre W → pre.length < l0.length → YieldAt F (n - 1) Tryz.prog lp #[.int .i64 (enc x).1, .string (enc x).2] W fun e W' =>
      (e = .returned (.bool true) ∧ J (pre ++ [x]) W' ∧ Kp W W') ∨ (e = .returned (.bool false) ∧ Jx (pre ++ [x]) W'))
    (W : World) (hQ0 : Q W) (h0 : J [] W) :
    CallsIn F n Tryz.prog 42 #[.func (.yield lp) #[] #[], .pointer (some ⟨Bs, 0, none⟩)] W fun e W' => (∃ v, e = .returned v) ∧
      ((∃ ys, ys = upto f l0.length ∧ J ys W') ∨ (∃ pre, (∃ k, k ≤ l0.length ∧ pre = upto f k) ∧ Jx pre W')) := by
  have HL := Aside0.mk hlen
  have hs1 : wrap64 ((l0.length : Int) - 1) = (l0.length : Int) - 1 := Go.IntWalk.wrap64_in _ (by omega)
  have HS1 := Aside0.mk hs1
  have HQ0 := Aside0.mk hQ0
  have hBs := (hQ W hQ0).2
  clear hlen hs1 hQ0
  refine callsIn_of_wp Tryz.func42 rfl h7 ?_ hro
  simp only [Tryz.ntmps42, List.size_toArray, List.length_cons, List.length_nil, Nat.reduceAdd, Nat.reduceSub, Array.replicate_succ, Array.replicate_zero, List.push_toArray, List.append_toArray, List.nil_append, List.cons_append]
  gi_wp2
  gi_loopw [3] (fun i wr => ∃ (k : Nat) (x : Int), i = .int .i64 x ∧ Aside0 (k ≤ l0.length ∧ x = (l0.length : Int) - 1 - k) ∧ J (upto f k) wr ∧ Aside0 (Q wr))
    (fun i _ => (intOf i + 1).toNat)
  case atStart => exact ⟨0, _, rfl, ⟨Nat.zero_le _, by first | (rw [HS1.out]; omega) | omega⟩, h0, HQ0⟩
  case round =>
    clear hBs
    obtain ⟨k, x, rfl, HX, hJs, HQ⟩ := hrel
    obtain ⟨hC, hBs⟩ := hQ wr HQ.out
    by_cases hlt : k < l0.length
    · obtain ⟨fn, tmps, assign, body, hy, hR⟩ := hY _ (f k) wr hJs (by rw [upto_length]; exact hlt)
      have hx := HX.out
      have ex : enc (f k) = (x, rdOf ByteArray.empty l0 x) := by rw [hf k hlt]; simp [bkS, hx.2]
      rw [ex] at hy
      have p1 : 0 ≤ x := by omega
      have q1 : x < (l0.length : Int) := by omega
      have hb : decide (0 ≤ x) = true := decide_eq_true p1
      obtain ⟨ad, e, hcs⟩ := Kd.at_string hC x p1 q1
      cases e
      have hw : wrap64 (x - 1) = x - 1 := Go.IntWalk.wrap64_in _ (by have := HL.out; omega)
      have HKK := Aside0.mk hlt
      have HWR := Aside0.mk hw
      clear hx hw hlt ex hC
      replace p1 := eq_true p1
      replace q1 := eq_true q1
      gi_wp2
      refine hR.mono ?_
      rintro e W3 (⟨rfl, hJ3, hk3⟩ | ⟨rfl, hJx3⟩)
      · gi_wp2
        go_roundw
        case rel => exact ⟨k + 1, _, rfl, ⟨by have := HKK.out; omega, by have := HX.out; first | (rw [HWR.out]; omega) | omega⟩, by rw [upto_succ]; exact hJ3, ⟨hK _ _ hk3 HQ.out⟩⟩
        case measure =>
          have := HX.out
          have := HKK.out
          have := HWR.out
          simp [intOf]
          omega
      · gi_wp2
        refine bodyPost_ret (results_none rfl _ _ _) rfl ?_
        exact ⟨⟨_, rfl⟩, .inr ⟨_, ⟨k + 1, HKK.out, (upto_succ _ _).symm⟩, hJx3⟩⟩
    · have hx := HX.out
      obtain rfl : k = l0.length := by omega
      have hb : decide (0 ≤ x) = false := decide_eq_false (by omega)
      clear hx HX
      gi_wp2
      go_end0
      exact ⟨⟨_, rfl⟩, .inl ⟨_, rfl, hJs⟩⟩
set_option maxHeartbeats 1000000 in
theorem bkS_in (F : Fence) (n : Nat) (h5 : F.fn 30) (hro : F.round = none) (a : Option Addr) (len cap : Nat) (w : World) :
    CallsIn F n Tryz.prog 30 #[.slice a len cap] w fun e w' => e = .returned (.func (.func 42) #[] #[.pointer (some ⟨w.heap.size, 0, none⟩)]) ∧ w' = w.alloc (.cells #[.slice a len cap] 32) := by
  refine callsIn_of_wp Tryz.func30 rfl h5 ?_ hro
  simp only [Tryz.ntmps30, List.size_toArray, List.length_cons, List.length_nil, Nat.reduceAdd, Nat.reduceSub, Array.replicate_succ, Array.replicate_zero, List.push_toArray, List.append_toArray, List.nil_append, List.cons_append]
  gi_wp2
  go_ret
  exact ⟨rfl, rfl⟩
/-- slices.Backward(s) hands back a value that goes over all of s, from behind. -/
theorem bkS_stops {α : Type} (enc : α → Int × ByteArray) (f : Nat → α) (F : Fence) (n : Nat) (h7 : F.fn 42) (hro : F.round = none) (hn : 1 ≤ n) (Bs : Nat) (A0 : Option Addr) (c0 : Nat) (l0 : List ByteArray) (hf : ∀ k, k < l0.length → enc (f k) = bkS l0 k) (hlen : (l0.length : Int) ≤ 9223372036854775807) (Q : World → Prop) (hQ : ∀ W, Q W → Kd.C Kd.string W A0 l0.length l0 ∧ W.cell? ⟨Bs, 0, none⟩ = some (.slice A0 l0.length c0)) (Kp : World → World → Prop) (hK : ∀ W W', Kp W W' → Q W → Q W') (w : World) (hQw : ∀ W, Below w.heap.size w W → Q W) :
    SeqStopsK F n Tryz.prog 42 #[.pointer (some ⟨Bs, 0, none⟩)] (fun x : α => #[Value.int .i64 (enc x).1, Value.string (enc x).2]) Kp (fun ys => ys = upto f l0.length) (fun pre => ∃ k, k ≤ l0.length ∧ pre = upto f k) l0.length w := fun lp J Jx W hW _ _ hY h0 =>
  bkS1_in enc f F n h7 hro hn lp Bs A0 c0 l0 hf hlen Q hQ Kp hK J Jx hY W (hQw W hW) h0
/-- The texts lie in a block, and their slice in a box. -/
def QS (gs Bs : Nat) (ws : List ByteArray) (W : World) : Prop := W.heap[gs]? = some (.cells (ws.map Value.string).toArray 9 (0, 0)) ∧ W.heap[Bs]? = some (.cells #[.slice (some ⟨gs, 0, none⟩) ws.length ws.length] 32 (0, 0))
theorem QS_reads {gs Bs : Nat} {ws : List ByteArray} (hl : ws.length ≤ 9223372036854775807) {W : World} (h : QS gs Bs ws W) : Kd.C Kd.string W (some ⟨gs, 0, none⟩) ws.length ws ∧ W.cell? ⟨Bs, 0, none⟩ = some (.slice (some ⟨gs, 0, none⟩) ws.length ws.length) := by
  refine ⟨?_, (blk_cell h.2 0).trans rfl⟩
  have ho : W.ownsRow 0 9 1 (.slice (some ⟨gs, 0, none⟩) ws.length ws.length) ws.length (encs Value.string ws) := ⟨by simp [encs], .inr ⟨gs, ws.length, (ws.map Value.string).toArray, rfl, Nat.zero_le _, h.1, Nat.le_refl _, by unfold maxLen; omega, by simp, by simp only [encs, Nat.mul_one]; exact List.take_of_length_le (by simp)⟩⟩
  exact (Kd.R_reads' (ok := fun _ => True) (Kd.R_of_own (h1 := fun _ => rfl) ho (fun _ _ => trivial))).2.2
theorem QS_below {gs Bs : Nat} {ws : List ByteArray} {W W' : World} (h : QS gs Bs ws W) (hb : Below W.heap.size W W') : QS gs Bs ws W' := ⟨(hb.block _ (Array.getElem?_eq_some_iff.1 h.1).1).trans h.1, (hb.block _ (Array.getElem?_eq_some_iff.1 h.2).1).trans h.2⟩
/-- What a round keeps: what lay below, and the texts. -/
def KQ (n₀ gs Bs : Nat) (ws : List ByteArray) (W W' : World) : Prop := Below n₀ W W' ∧ (QS gs Bs ws W → QS gs Bs ws W')
theorem KQ_t {n₀ gs Bs : Nat} {ws : List ByteArray} {A B C : World} (h : KQ n₀ gs Bs ws A B) (k : KQ n₀ gs Bs ws B C) : KQ n₀ gs Bs ws A C := ⟨h.1.trans k.1, fun hq => k.2 (h.2 hq)⟩
theorem blk_putO {W : World} {l B : Nat} {o o' ob : Obj} (hl : W.heap[l]? = some o) (h1 : o.isCells = false) (hB : W.heap[B]? = some ob) (hc : ob.isCells = true) : (W.putObj l o').heap[B]? = some ob := by
  have hne : B ≠ l := fun e => by
    subst e
    rw [hl] at hB
    cases hB
    rw [h1] at hc
    cases hc
  exact ((grownBy_putObj' W l o').block B (Array.getElem?_eq_some_iff.1 hB).1 (fun e => hne (Option.some.inj e))).trans hB
theorem QS_put {gs Bs : Nat} {ws : List ByteArray} {W : World} {l : Nat} {o o' : Obj} (hl : W.heap[l]? = some o) (h1 : o.isCells = false) (h : QS gs Bs ws W) : QS gs Bs ws (W.putObj l o') := ⟨blk_putO hl h1 h.1 rfl, blk_putO hl h1 h.2 rfl⟩
theorem KQ_b {n₀ gs Bs : Nat} {ws : List ByteArray} {w : World} (hn : n₀ ≤ w.heap.size) (W : World) (l : Nat) (o o' : Obj) (hl : w.heap.size ≤ l) (h : W.heap[l]? = some o) (h1 : o.isCells = false) (h2 : o.isWalk = false) : KQ n₀ gs Bs ws W (W.putObj l o') :=
  ⟨belowK_b hn W l o o' hl h h1 h2, QS_put h h1⟩
end Go.Proofs.YtdgillfbdlmloaaGreatDoor.P
/- The stack that a text spells, as the program reads it: a range over slices.Backward(strings.Split(..)), strconv.ParseUint, StackText; where what the readers ask of the world holds. -/
namespace Go.Proofs.YtdgillfbdlmloaaGreatDoor.P
open Go.RowKit Go.Shelf Go.Proofs.YtdgillfbdlmloaaGreatDoorW.PrintWords Go.Proofs.YtdgillfbdlmloaaGreatDoorW.PrintLast Go.Proofs.YtdgillfbdlmloaaGreatDoorW.PrintMore
attribute [local go_sem] Oper.semAt_some
set_option linter.unusedVariables false
set_option linter.unusedSimpArgs false
/-- A word with its place, no longer than a text may be. -/
abbrev Wd := { x : Int × ByteArray // x.2.size ≤ 281474976710656 }
theorem rdOf_small {ws : List ByteArray} {B : Nat} (h : ∀ t ∈ ws, t.size ≤ B) (i : Int) : (rdOf ByteArray.empty ws i).size ≤ B := by
  unfold rdOf
  rw [List.getD_eq_getElem?_getD]
  cases he : ws[i.toNat]? with
  | none => exact Nat.zero_le _
  | some t => exact h t (List.mem_of_getElem? he)
/-- The j-th word from behind. -/
def wd (ws : List ByteArray) (h : ∀ t ∈ ws, t.size ≤ 281474976710656) (j : Nat) : Wd := ⟨bkS ws j, rdOf_small h _⟩
/-- The number that a word spells, or 0. -/
def num8 (t : ByteArray) : Int := (((pu8 t).getD 0 : Nat) : Int) % 256
/-- The stack that the words spell, from behind. -/
def numsR (ws : List ByteArray) : List Int := (upto (bkS ws) ws.length).map fun x => num8 x.2
def readS (a0 : ByteArray) : Option (List Int × Int) :=
  if a0.size ≤ 1048576 then (if ((wordsB 58 a0).all fun t => (pu8 t).isSome) = true then (impl_StackText.f (numsR (wordsB 58 a0))).bind fun t => if t.toList = a0.toList then some (numsR (wordsB 58 a0), 0) else some ([], 5) else some ([], 5)) else none
theorem results_cell2 {fn : Func} {p q : Tmp} {t1 t2 : TypeId} (h : fn.results = #[.cell p t1, .cell q t2]) (tmps : Array Value) (P : Program) (w : World) (a b : Addr) (v1 v2 : Value) (hp : tmps.getD p undef = .pointer (some a)) (hq : tmps.getD q undef = .pointer (some b)) (h1 : (loadVar t1 a).run P w = .ok v1 w) (h2 : (loadVar t2 b).run P w = .ok v2 w) :
    (results fn tmps).run P w = .ok (.tuple #[v1, v2]) w := by
  have hp' : tmps[p]?.getD undef = .pointer (some a) := by simpa using hp
  have hq' : tmps[q]?.getD undef = .pointer (some b) := by simpa using hq
  simp only [results, h]
  simp [Sem.run_bind, Result.andThen, hp', hq', asAddr, h1, h2]
theorem load_stack (a : Addr) (v : Value) (w : World) (h : w.cell? a = some v) : (loadVar 23 a).run Tryz.prog w = .ok v w := by
  simp [loadVar, go_sem, h]
theorem load_i64 (a : Addr) (v : Value) (w : World) (h : w.cell? a = some v) : (loadVar 2 a).run Tryz.prog w = .ok v w := by
  simp [loadVar, go_sem, h]
theorem cell_put {W : World} {D : Nat} {o o' : Obj} (hK : W.heap[D]? = some o) (h1 : o.isCells = false) {B : Nat} {t : TypeId} {v : Value} (h : Boxed W B t v) : (W.putObj D o').cell? ⟨B, 0, none⟩ = some v := Boxed.cell (blk_putO hK h1 h rfl)
theorem six_blk (w : World) (o0 o1 o2 o3 o4 o5 : Obj) (W0 : World) (h : W0 = (((((w.alloc o0).alloc o1).alloc o2).alloc o3).alloc o4).alloc o5) :
    (W0.heap[w.heap.size]? = some o0 ∧ W0.heap[w.heap.size + 1]? = some o1 ∧ W0.heap[w.heap.size + 1 + 1]? = some o2 ∧ W0.heap[w.heap.size + 1 + 1 + 1]? = some o3 ∧ W0.heap[w.heap.size + 1 + 1 + 1 + 1]? = some o4 ∧ W0.heap[w.heap.size + 1 + 1 + 1 + 1 + 1]? = some o5) ∧ W0.heap.size = w.heap.size + 6 ∧ Below w.heap.size w W0 := by
  subst h
  have a1 := blk_new (w.alloc o0) o1
  have a2 := blk_new ((w.alloc o0).alloc o1) o2
  have a3 := blk_new (((w.alloc o0).alloc o1).alloc o2) o3
  have a4 := blk_new ((((w.alloc o0).alloc o1).alloc o2).alloc o3) o4
  have a5 := blk_new (((((w.alloc o0).alloc o1).alloc o2).alloc o3).alloc o4) o5
  simp only [World.size_alloc] at a1 a2 a3 a4 a5
  exact ⟨⟨blk_alloc (blk_alloc (blk_alloc (blk_alloc (blk_alloc (blk_new w o0) _) _) _) _) _, blk_alloc (blk_alloc (blk_alloc (blk_alloc a1 _) _) _) _, blk_alloc (blk_alloc (blk_alloc a2 _) _) _, blk_alloc (blk_alloc a3 _) _, blk_alloc a4 _, a5⟩, by simp, below_alloc (below_alloc (below_alloc (below_alloc (below_alloc (below_alloc (Below.refl _ _) _) _) _) _) _) _⟩
/-- What the words that have come leave in the stack. -/
def encN (l : List Wd) : List Value := l.map fun x => Value.int .u8 (num8 x.1.2)
theorem encN_snoc (l : List Wd) (x : Wd) : encN (l ++ [x]) = encN l ++ [Value.int .u8 (num8 x.1.2)] := by simp [encN]
theorem keeps_below {W W1 : World} (hb : Below W.heap.size W W1) : KeepsOthers W W1 := ⟨hb.size, fun k o hk _ => (hb.block k (Array.getElem?_eq_some_iff.1 hk).1).trans hk⟩
theorem qs_own {α : Type} {gs Bs : Nat} {ws : List ByteArray} {B : Nat} : OwnFrom B (fun (_ : List α) W => QS gs Bs ws W) := fun s A W' row hs hg hr => by
  refine ⟨blk_grown hs.1 hg (fun e => ?_), blk_grown hs.2 hg (fun e => ?_)⟩
  · obtain ⟨_, o, ho, hc⟩ := hr _ e.symm
    rw [hs.1] at ho
    cases ho
    cases hc
  · obtain ⟨_, o, ho, hc⟩ := hr _ e.symm
    rw [hs.2] at ho
    cases ho
    cases hc
set_option maxRecDepth 100000 in
set_option maxHeartbeats 8000000 in
theorem readS_in (n : Nat) (hn : 3 ≤ n) (a0 : ByteArray) (r : List Int × Int) (hr : readS a0 = some r) (w : World) (hE : Env w) :
    CallsIn Fence.wide n Tryz.prog 14 #[.string a0] w fun e W' => ∃ v, e = .returned (.tuple #[v, .int .i64 r.2]) ∧ W'.ownsRow w.heap.size 5 1 v r.1.length (r.1.map (Value.int .u8)) ∧ Below w.heap.size w W' := by
  have h1 : 1 ≤ n := by omega
  have hs : a0.size ≤ 1048576 := by
    unfold readS at hr
    by_cases hs : a0.size ≤ 1048576
    · exact hs
    · rw [if_neg hs] at hr
      cases hr
  have HS := Aside0.mk hs
  have HE := Aside0.mk hE
  have HR := Aside0.mk hr
  have hro : Fence.wide.round = none := rfl
  have hf1 : Fence.wide.fn 13 := trivial
  have hf2 : Fence.wide.fn 30 := trivial
  have hBA : ∀ o1 o2 o3 o4, Below w.heap.size w ((((w.alloc o1).alloc o2).alloc o3).alloc o4) := fun o1 o2 o3 o4 => below_alloc (below_alloc (below_alloc (below_alloc (Below.refl _ _) _) _) _) _
  have HBA := Aside0.mk hBA
  clear hr hE hs hBA
  refine callsIn_of_wp_marks Tryz.func14 rfl trivial ?_ hro
  simp only [Tryz.ntmps14, List.size_toArray, List.length_cons, List.length_nil, Nat.reduceAdd, Nat.reduceSub, Array.replicate_succ, Array.replicate_zero, List.push_toArray, List.append_toArray, List.nil_append, List.cons_append]
  gi_wp2_with (first | (gi_at_call 13; refine ((callsIn_wide (n := n - 1)).2 (split_calls 58 a0 HS.out _ (env_keep HE.out (HBA.out _ _ _ _) (Nat.le_refl _)))).mono ?_; rintro e w1 ⟨rfl, rfl⟩) | (gi_at_call 30; refine (bkS_in Fence.wide (n - 1) trivial hro _ _ _ _).mono ?_; rintro e w' ⟨rfl, rfl⟩))
  have hws : ∀ t ∈ wordsB 58 a0, t.size ≤ 281474976710656 := fun t ht => by
    have := splitB_small _ _ _ _ t ht
    have := HS.out
    omega
  have hwl : (wordsB 58 a0).length ≤ 1048577 := by
    have := wordsB_le 58 a0
    have := HS.out
    omega
  obtain ⟨ws, hwse⟩ : ∃ ws, ws = wordsB 58 a0 := ⟨_, rfl⟩
  obtain ⟨g, hg⟩ : ∃ g, g = w.heap.size := ⟨_, rfl⟩
  obtain ⟨W0, hW0⟩ : ∃ W0, W0 = ((((((w.alloc (.cells #[.slice none 0 0] 23)).alloc (.cells #[.int .i64 0] 2)).alloc (.cells #[] 5)).alloc (.cells #[.slice (some ⟨w.heap.size + 1 + 1, 0, none⟩) 0 0] 23)).alloc (.cells ((wordsB 58 a0).map Value.string).toArray 9)).alloc (.cells #[.slice (some ⟨w.heap.size + 1 + 1 + 1 + 1, 0, none⟩) (wordsB 58 a0).length (wordsB 58 a0).length] 32)) := ⟨_, rfl⟩
  obtain ⟨⟨bR0, bR1, bE, bS, bQ1, bQ2⟩, hSz, hB0⟩ := six_blk w _ _ _ _ _ _ W0 hW0
  rw [← hW0]
  rw [← hwse] at bQ1 bQ2 hws hwl ⊢
  rw [← hg] at bR0 bR1 bE bS bQ1 bQ2 hSz hB0 ⊢
  clear hW0 HBA
  have HMX := Aside0.mk (show Tryz.prog.follows .mixedOrders = true by kernel_rfl)
  have HG := Aside0.mk hg
  have HWSE := Aside0.mk hwse
  clear hg hwse
  have hQ0 : QS (g + 1 + 1 + 1 + 1) (g + 1 + 1 + 1 + 1 + 1) ws W0 := ⟨bQ1, bQ2⟩
  refine wpIn_rangeFunc_ownG hro h1 (gf := 42) (lb := #[.pointer (some ⟨g + 1 + 1 + 1 + 1 + 1, 0, none⟩)]) rfl trivial (enters_of Tryz.func42 (by kernel_rfl) rfl)
    (bkS_stops (fun x : Wd => x.1) (wd ws hws) Fence.wide (n - 1) trivial hro (by omega) (g + 1 + 1 + 1 + 1 + 1) (some ⟨g + 1 + 1 + 1 + 1, 0, none⟩) ws.length ws (fun _ _ => rfl) (by omega) (QS (g + 1 + 1 + 1 + 1) (g + 1 + 1 + 1 + 1 + 1) ws) (fun _ h => QS_reads (by omega) h) (KQ g (g + 1 + 1 + 1 + 1) (g + 1 + 1 + 1 + 1 + 1) ws) (fun _ _ h => h.2) W0 (fun _ hb => QS_below hQ0 hb))
    (fun h k => KQ_t h k) (KQ_b (by omega)) (Below.refl _ _) (fun _ => rfl)
    (fun pre W => (∃ v, Boxed W (g + 1 + 1 + 1) 23 v ∧ W.ownsRow g 5 1 v pre.length (encN pre) ∧ (∀ x ∈ pre, (pu8 x.1.2).isSome = true)) ∧ Boxed W g 23 (.slice none 0 0) ∧ Boxed W (g + 1) 2 (.int .i64 0) ∧ QS (g + 1 + 1 + 1 + 1) (g + 1 + 1 + 1 + 1 + 1) ws W ∧ Below g w W)
    (fun c pre W => (c = .ret ∧ ∃ x ∈ pre, pu8 x.1.2 = none) ∧ Boxed W g 23 (.slice none 0 0) ∧ Boxed W (g + 1) 2 (.int .i64 5) ∧ Below g w W)
    (OwnFrom.and (Own.from (holdsRow_own _ _ _ _ _ _ _ _) _) (OwnFrom.and (Own.from (boxed_own _ _ _) _) (OwnFrom.and (Own.from (boxed_own _ _ _) _) (OwnFrom.and qs_own (ownFrom_below (Nat.le_of_eq HG.out) (by omega))))))
    (fun c => OwnFrom.and (ownFrom_pure _ (fun pre : List Wd => c = .ret ∧ ∃ x ∈ pre, pu8 x.1.2 = none)) (OwnFrom.and (Own.from (boxed_own _ _ _) _) (OwnFrom.and (Own.from (boxed_own _ _ _) _) (ownFrom_below (Nat.le_of_eq HG.out) (by omega)))))
    ⟨⟨_, bS, ⟨rfl, .inr ⟨g + 1 + 1, 0, #[], rfl, by omega, bE, Nat.le_refl _, by unfold maxLen; omega, rfl, rfl⟩⟩, by simp⟩, bR0, bR1, hQ0, hB0⟩
    (fun x => { tmps := #[.string a0, undef, .pointer (some ⟨g, 0, none⟩), .pointer (some ⟨g + 1, 0, none⟩), .pointer (some ⟨g + 1 + 1 + 1, 0, none⟩), undef, .string x.1.2, undef, undef, .slice (some ⟨g + 1 + 1, 0, none⟩) 0 0, .string a0, .slice (some ⟨g + 1 + 1 + 1 + 1, 0, none⟩) ws.length ws.length, .func (.func 42) #[] #[.pointer (some ⟨g + 1 + 1 + 1 + 1 + 1, 0, none⟩)], .int .i64 x.1.1, .string x.1.2, undef, undef, undef, undef, undef, undef, undef, undef, undef, undef, undef, undef, undef, undef, undef, undef, undef], defers := [] }) ?assign ?body ?done ?stop
  case assign =>
    intro l x W K hK
    gi_wp2
    exact hK
  case body =>
    rintro l pre x W ⟨⟨v, hv, hrow, hok⟩, hR0, hR1, hQ, hB⟩ hlt
    have hc := hv.cell
    have hf := hv.frozen
    have hc0 := hR0.cell
    have hf0 := hR0.frozen
    have hc1 := hR1.cell
    have hf1' := hR1.frozen
    have HEW := Aside0.mk (env_keep HE.out hB (by have := HG.out; omega))
    have hf3 : Fence.wide.fn 31 := trivial
    have h2 : 1 ≤ n - 1 - 1 := by omega
    have hBS : g ≤ W.heap.size := by
      have := hB.size
      have := HG.out
      omega
    cases hp : pu8 x.1.2 with
    | none =>
      have HP := Aside0.mk hp
      clear hp
      gi_wp2_with (gi_at_call 31; refine (CallsIn.inRound l ((callsIn_wide (n := _)).2 (pu8_no x.1.2 x.2 HP.out _ HEW.out))).mono ?_; rintro e W1 ⟨N, v1, rfl, hb1⟩; have h10 := (hb1.block _ hR0.lt).trans hR0; have h11 := (hb1.block _ hR1.lt).trans hR1; have hx0 : W1.cell? ⟨g, 0, none⟩ = some (.slice none 0 0) := Boxed.cell h10; have hx1 : W1.cell? ⟨g + 1, 0, none⟩ = some (.int .i64 0) := Boxed.cell h11; have hx2 : W1.frozen? ⟨g, 0, none⟩ = false := Boxed.frozen h10; have hx3 : W1.frozen? ⟨g + 1, 0, none⟩ = false := Boxed.frozen h11)
      exact ⟨((keeps_below hb1).trans ((KeepsOthers.setCell _ _ _).trans (KeepsOthers.setCell _ _ _))).from _, ⟨rfl, x, by simp, HP.out⟩, (Boxed.set _ h10).other (show g ≠ g + 1 by omega) _, Boxed.set _ (Boxed.other h11 (show g + 1 ≠ g by omega) _), ((hB.trans (hb1.mono (by have := HG.out; omega))).setCell (p := ⟨g, 0, none⟩) (Nat.le_refl _) _).setCell (p := ⟨g + 1, 0, none⟩) (Nat.le_succ _) _⟩
    | some u =>
      have HP := Aside0.mk hp
      clear hp
      obtain ⟨i0, hi, hz0, hz1, hz2⟩ := info_parts (show (Tryz.prog.info? 5).map (fun i => (i.zero, i.size, i.bytes)) = some (some (.int .u8 0), 1, 1) by kernel_rfl)
      gi_wp2_with (first | (gi_at_call 31; refine (CallsIn.inRound l ((callsIn_wide (n := _)).2 (pu8_yes x.1.2 x.2 u HP.out _))).mono ?_; rintro e W1 ⟨rfl, hb1⟩; have h1v : Boxed W1 (g + 1 + 1 + 1) 23 v := (hb1.block _ hv.lt).trans hv; have hx0 := h1v.cell; have hx2 := h1v.frozen; have hrow1 := own_move hrow (fun k hk => hb1.block k (own_lt hrow k hk)); have hQ1 := QS_below hQ hb1; have hR01 : Boxed W1 g 23 (.slice none 0 0) := (hb1.block _ hR0.lt).trans hR0; have hR11 : Boxed W1 (g + 1) 2 (.int .i64 0) := (hb1.block _ hR1.lt).trans hR1; have hbs1 := hb1.size) | (gi_at_builtin; refine wpListIn_append_own _ rfl _ _ 23 rfl g 5 i0 _ 1 1 Tryz.underlying23 hi hz0 hz1 hz2 rfl (by decide) _ _ _ rfl (hrow1.alloc _) ⟨W1.heap.size, 0, none⟩ 1 1 [.int .u8 ((u : Int) % 256)] rfl rfl (cell_one_new _ _ _) (by simp [Value.oneCell']) (by unfold maxLen; omega) (by omega) (by simp; omega) ?_; intro v' w2 hown' hgrow _; obtain ⟨g', cap', rfl⟩ := ownsRow_succ hown'; obtain ⟨hv1, hv2, hr2, hk2, hb2⟩ := h1v.appended (by decide) hrow1 (by omega) (by omega) hown' hgrow; have hc2 := hv1.cell; have hf2 := hv1.frozen))
      have hbb : Below g W (w2.setCell ⟨g + 1 + 1 + 1, 0, none⟩ (.slice (some ⟨g', 0, none⟩) (pre.length + 1) cap')) := (hb1.mono hBS).trans hb2
      have hQ2 : QS (g + 1 + 1 + 1 + 1) (g + 1 + 1 + 1 + 1 + 1) ws (w2.setCell ⟨g + 1 + 1 + 1, 0, none⟩ (.slice (some ⟨g', 0, none⟩) (pre.length + 1) cap')) := ⟨blk_far (blk_grown (blk_alloc hQ1.1 _) hgrow (row_ne hrow1 hQ1.1 (by decide))) (show g + 1 + 1 + 1 + 1 ≠ g + 1 + 1 + 1 by omega) _, blk_far (blk_grown (blk_alloc hQ1.2 _) hgrow (row_ne hrow1 hQ1.2 (by decide))) (show g + 1 + 1 + 1 + 1 + 1 ≠ g + 1 + 1 + 1 by omega) _⟩
      refine ⟨((keeps_below hb1).trans hk2).from _, ⟨hbb, fun _ => hQ2⟩, ⟨_, hv2, ?_, ?_⟩, (boxed_beside hR01 (by decide) hrow1 hgrow).other (show g ≠ g + 1 + 1 + 1 by omega) _, (boxed_beside hR11 (by decide) hrow1 hgrow).other (show g + 1 ≠ g + 1 + 1 + 1 by omega) _, hQ2, hB.trans hbb⟩
      · rw [encN_snoc, List.length_append, show num8 x.1.2 = (u : Int) % 256 by unfold num8; rw [HP.out]; rfl]
        exact hr2
      · intro y hy
        rw [List.mem_append, List.mem_singleton] at hy
        rcases hy with hy | rfl
        · exact hok y hy
        · rw [HP.out]
          rfl
  case done =>
    rintro D ys W hD rfl ⟨⟨v, hv, hrow, hok⟩, hR0, hR1, hQ, hB⟩ hK
    have hvc := hv.cell
    have hvf := hv.frozen
    have hul : (upto (wd ws hws) ws.length).length = (numsR ws).length := by simp [numsR, upto_length]
    have hen : encN (upto (wd ws hws) ws.length) = (numsR ws).map (Value.int .u8) := by
      unfold encN numsR upto
      simp [wd]
    rw [hul, hen] at hrow
    have hpos : 1 ≤ (numsR ws).length := by
      rw [← hul, upto_length, HWSE.out, wordsB_len]
      omega
    obtain ⟨g', cap', rfl⟩ : ∃ g' cap', v = .slice (some ⟨g', 0, none⟩) (numsR ws).length cap' := by
      rcases hrow.2 with ⟨_, e⟩ | ⟨g', cap', cur, e, _⟩
      · omega
      · exact ⟨g', cap', e⟩
    have hall : ((wordsB 58 a0).all fun t => (pu8 t).isSome) = true := by
      rw [← HWSE.out, List.all_eq_true]
      intro t ht
      obtain ⟨i, hi, rfl⟩ := List.getElem_of_mem ht
      have := hok (wd ws hws (ws.length - 1 - i)) (by
        unfold upto
        exact List.mem_map_of_mem (by simp; omega))
      have e : (wd ws hws (ws.length - 1 - i)).1.2 = ws[i] := by
        show rdOf ByteArray.empty ws ((ws.length : Int) - 1 - ((ws.length - 1 - i : Nat) : Int)) = ws[i]
        rw [show ((ws.length : Int) - 1 - ((ws.length - 1 - i : Nat) : Int)) = (i : Int) by omega]
        simp [rdOf, List.getD, hi]
      rw [e] at this
      exact this
    have hr := HR.out
    unfold readS at hr
    rw [if_pos HS.out, if_pos hall, ← HWSE.out] at hr
    replace hr := Option.bind_eq_some_iff.mp hr
    obtain ⟨t, ht, hr⟩ := hr
    have hC := Kd.R_reads' (ok := fun _ => True) (Kd.R_of_own (enc := Value.int .u8) (h1 := fun _ => rfl) hrow (fun _ _ => trivial))
    have HC := Aside0.mk hC
    have HT := Aside0.mk ht
    have HEW := Aside0.mk (env_keep HE.out hB (by have := HG.out; omega))
    have hf4 : Fence.wide.fn 32 := trivial
    clear hC ht hall hpos
    by_cases ct : t.toList = a0.toList
    · rw [if_pos ct] at hr
      obtain rfl := Option.some.inj hr
      have cb : (t.toList != a0.toList) = false := bne_eq_false_iff_eq.mpr ct
      have cb0 : (t.toList == a0.toList) = true := by simpa using ct
      have CT := Aside0.mk ct
      clear ct hr
      gi_wp2_with (gi_at_call 32; refine ((callsIn_wide (n := n - 1)).2 (impl_StackText.calls _ _ _ t _ HC.out.2.2 HC.out.2.1 HT.out HEW.out.1)).mono ?_; rintro e W2 ⟨rfl, hb2⟩; have k0 := (hb2.block _ hR0.lt).trans hR0; have k1 := (hb2.block _ hR1.lt).trans hR1; have kv := (hb2.block _ hv.lt).trans hv; have kc0 := Boxed.cell k0; have kf0 := Boxed.frozen k0; have kc1 := Boxed.cell k1; have kf1 := Boxed.frozen k1; have kcv := Boxed.cell kv)
      have hg2 := HG.out
      have hKD : W2.heap[D]? = some (.deferred (some [])) := (hb2.block D (Array.getElem?_eq_some_iff.1 hK).1).trans hK
      have hb02 : Below g w W2 := hB.trans (hb2.mono (by have := hB.size; omega))
      have hrow2 := own_move hrow (fun k hk => hb2.block k (own_lt hrow k hk))
      have e1 : Boxed ((W2.setCell ⟨g, 0, none⟩ (.slice (some ⟨g', 0, none⟩) (numsR ws).length cap')).setCell ⟨g + 1, 0, none⟩ (.int .i64 0)) g 23 (.slice (some ⟨g', 0, none⟩) (numsR ws).length cap') := (Boxed.set _ k0).other (show g ≠ g + 1 by omega) _
      have e2 : Boxed ((W2.setCell ⟨g, 0, none⟩ (.slice (some ⟨g', 0, none⟩) (numsR ws).length cap')).setCell ⟨g + 1, 0, none⟩ (.int .i64 0)) (g + 1) 2 (.int .i64 0) := Boxed.set _ (Boxed.other k1 (show g + 1 ≠ g by omega) _)
      have hKE : ((W2.setCell ⟨g, 0, none⟩ (.slice (some ⟨g', 0, none⟩) (numsR ws).length cap')).setCell ⟨g + 1, 0, none⟩ (.int .i64 0)).heap[D]? = some (.deferred (some [])) := (Below.heap_setCell _ _ _ D (show D ≠ g + 1 by omega)).trans ((Below.heap_setCell _ _ _ D (show D ≠ g by omega)).trans hKD)
      have hrow3 := own_move (own_move hrow2 (fun k hk => Below.heap_setCell W2 ⟨g, 0, none⟩ (.slice (some ⟨g', 0, none⟩) (numsR ws).length cap') k (fun e => row_ne hrow2 k0 (by decide) (by have e2 : k = g := e; rw [← e2]; exact hk.symm)))) (fun k hk => Below.heap_setCell _ ⟨g + 1, 0, none⟩ (.int .i64 0) k (fun e => row_ne hrow2 k1 (by decide) (by have e2 : k = g + 1 := e; rw [← e2]; exact hk.symm)))
      refine ⟨by simp, .inl ⟨_, _, rfl, run_takeDeferred hKE, ?_⟩⟩
      refine ⟨_, results_cell2 rfl _ _ _ ⟨g, 0, none⟩ ⟨g + 1, 0, none⟩ _ _ rfl rfl (load_stack _ _ _ (cell_put hKE rfl e1)) (load_i64 _ _ _ (cell_put hKE rfl e2)), _, rfl, ?_, ?_⟩
      · rw [← hg2]
        exact ownsRow_putObj hrow3 _ hKE rfl
      · rw [← hg2]
        exact ((hb02.setCell (p := ⟨g, 0, none⟩) (Nat.le_refl _) _).setCell (p := ⟨g + 1, 0, none⟩) (Nat.le_succ _) _).trans (belowK_b (w := w) (by omega) _ D _ _ (by omega) hKE rfl rfl)
    · rw [if_neg ct] at hr
      obtain rfl := Option.some.inj hr
      have cb : (t.toList != a0.toList) = true := by simpa using ct
      have cb0 : (t.toList == a0.toList) = false := by simpa using ct
      clear ct hr
      gi_wp2_with (gi_at_call 32; refine ((callsIn_wide (n := n - 1)).2 (impl_StackText.calls _ _ _ t _ HC.out.2.2 HC.out.2.1 HT.out HEW.out.1)).mono ?_; rintro e W2 ⟨rfl, hb2⟩; have k0 := (hb2.block _ hR0.lt).trans hR0; have k1 := (hb2.block _ hR1.lt).trans hR1; have kc0 := Boxed.cell k0; have kf0 := Boxed.frozen k0; have kc1 := Boxed.cell k1; have kf1 := Boxed.frozen k1)
      have hg2 := HG.out
      have hKD : W2.heap[D]? = some (.deferred (some [])) := (hb2.block D (Array.getElem?_eq_some_iff.1 hK).1).trans hK
      have hb02 : Below g w W2 := hB.trans (hb2.mono (by have := hB.size; omega))
      have e1 : Boxed ((W2.setCell ⟨g, 0, none⟩ (.slice none 0 0)).setCell ⟨g + 1, 0, none⟩ (.int .i64 5)) g 23 (.slice none 0 0) := (Boxed.set _ k0).other (show g ≠ g + 1 by omega) _
      have e2 : Boxed ((W2.setCell ⟨g, 0, none⟩ (.slice none 0 0)).setCell ⟨g + 1, 0, none⟩ (.int .i64 5)) (g + 1) 2 (.int .i64 5) := Boxed.set _ (Boxed.other k1 (show g + 1 ≠ g by omega) _)
      have hKE : ((W2.setCell ⟨g, 0, none⟩ (.slice none 0 0)).setCell ⟨g + 1, 0, none⟩ (.int .i64 5)).heap[D]? = some (.deferred (some [])) := (Below.heap_setCell _ _ _ D (show D ≠ g + 1 by omega)).trans ((Below.heap_setCell _ _ _ D (show D ≠ g by omega)).trans hKD)
      refine ⟨by simp, .inl ⟨_, _, rfl, run_takeDeferred hKE, ?_⟩⟩
      refine ⟨_, results_cell2 rfl _ _ _ ⟨g, 0, none⟩ ⟨g + 1, 0, none⟩ _ _ rfl rfl (load_stack _ _ _ (cell_put hKE rfl e1)) (load_i64 _ _ _ (cell_put hKE rfl e2)), _, rfl, World.ownsRow_nil _ _ _ _, ?_⟩
      rw [← hg2]
      exact ((hb02.setCell (p := ⟨g, 0, none⟩) (Nat.le_refl _) _).setCell (p := ⟨g + 1, 0, none⟩) (Nat.le_succ _) _).trans (belowK_b (w := w) (by omega) _ D _ _ (by omega) hKE rfl rfl)
  case stop =>
    rintro D c pre W hD ⟨k, hk, rfl⟩ ⟨⟨rfl, x, hx, hbad⟩, hR0, hR1, hB⟩ hK
    have hr := HR.out
    unfold readS at hr
    have hall : ¬ ((wordsB 58 a0).all fun t => (pu8 t).isSome) = true := by
      intro h
      rw [← HWSE.out, List.all_eq_true] at h
      unfold upto at hx
      obtain ⟨i, hi, rfl⟩ := List.mem_map.1 hx
      rw [List.mem_range] at hi
      have hlt : (((ws.length : Int) - 1 - i).toNat) < ws.length := by omega
      have e : (wd ws hws i).1.2 = ws[((ws.length : Int) - 1 - i).toNat] := by
        show rdOf ByteArray.empty ws ((ws.length : Int) - 1 - i) = _
        unfold rdOf
        rw [List.getD_eq_getElem?_getD, List.getElem?_eq_getElem hlt]
        rfl
      have := h _ (List.getElem_mem hlt)
      rw [← e, hbad] at this
      cases this
    rw [if_pos HS.out, if_neg hall] at hr
    obtain rfl := Option.some.inj hr
    clear hr hall hx
    have kc0 := hR0.cell
    have kc1 := hR1.cell
    gi_wp2
    have hg2 := HG.out
    refine ⟨by simp, .inl ⟨_, _, rfl, run_takeDeferred hK, ?_⟩⟩
    refine ⟨_, results_cell2 rfl _ _ _ ⟨g, 0, none⟩ ⟨g + 1, 0, none⟩ _ _ rfl rfl (load_stack _ _ _ (cell_put hK rfl hR0)) (load_i64 _ _ _ (cell_put hK rfl hR1)), _, rfl, World.ownsRow_nil _ _ _ _, ?_⟩
    rw [← hg2]
    exact hB.trans (belowK_b (w := w) (by omega) _ D _ _ (by omega) hK rfl rfl)
def impl_ReadStack.f (a0 : ByteArray) : Option (List Int × Int) := readS a0
theorem impl_ReadStack.calls (a0 : ByteArray) (r1 : List Int) (r2 : Int) (w : World) (h : impl_ReadStack.f a0 = some (r1, r2)) (htab : Env w) :
    Calls Tryz.prog 14 #[.string a0] w fun e w' => ∃ v0_ : Value, e = .returned (.tuple #[v0_, .int .i64 r2]) ∧ Kd.R (Kd.int .u8) 5 w' w.heap.size (fun _ => True) v0_ r1 ∧ Below w.heap.size w w' := by
  refine ((Go.callsIn_wide (n := 3)).1 (readS_in 3 (Nat.le_refl _) a0 (r1, r2) h w htab)).mono ?_
  rintro e w' ⟨v, rfl, hrow, hb⟩
  exact ⟨v, rfl, Kd.R_of_own (enc := Value.int .u8) (h1 := fun _ => rfl) hrow (fun _ _ => trivial), hb⟩
end Go.Proofs.YtdgillfbdlmloaaGreatDoor.P
