/- A contract that the print does not take: slices.Repeat of a stack of one wheel. -/
import Derived.Test.YtcapjgjjaolofaaGivB
import Derived.Laws.CopyOwn
import Derived.Laws.MakeOwn
import Derived.IntWalk
import Derived.BigRegion
import Derived.Deep.RegionLaw
namespace Go.Proofs.Ytcapjgjjaolofaa.P
open Go.RowKit Go.Proofs.YtcapjgjjaolofaaW.PrintWords Go.Proofs.YtcapjgjjaolofaaW.PrintLast Go.Proofs.YtcapjgjjaolofaaW.PrintMore
set_option linter.unusedVariables false
set_option linter.unusedSimpArgs false
theorem few {n : Int} (h1 : 1 ≤ n) (h8 : n ≤ 8) : n = 1 ∨ n = 2 ∨ n = 3 ∨ n = 4 ∨ n = 5 ∨ n = 6 ∨ n = 7 ∨ n = 8 := by omega
/-- A block of numbers is a row of one's own. -/
theorem own_u8 {w : World} {g base : Nat} (o : List Int) (n : Nat) (hn : o.length = n) (hg : w.heap[g]? = some (.cells (u8s o) 5 (0, 0))) (hb : base ≤ g) (h9 : n ≤ 1000) : Kd.R (Kd.int .u8) 5 w base (fun _ => True) (.slice (some ⟨g, 0, none⟩) n n) o := by
  refine ⟨fun _ _ => trivial, (u8s o).toList, ?_, ?_⟩
  · refine ⟨by show _ = _ * 1; simp [u8s], .inr ⟨g, n, u8s o, by simp [hn], hb, hg, by omega, by unfold maxLen; omega, by show _ = _ * 1; simp [u8s, hn], ?_⟩⟩
    show List.take (o.length * 1) _ = _
    rw [Nat.mul_one]
    simp [u8s, List.take_of_length_le]
  · refine ⟨by show _ = _ * 1; simp [u8s], fun j p hj => ?_⟩
    show List.take 1 (List.drop (j * 1) (u8s o).toList) = [.int .u8 p]
    obtain ⟨hlt, hp⟩ := List.getElem?_eq_some_iff.mp hj
    rw [Nat.mul_one, List.drop_eq_getElem_cons (by simpa [u8s] using hlt)]
    simp [u8s, hp]
theorem made_u8 (n : Nat) : madeCells (Value.int .u8 0).cells (n * 1) = u8s (List.replicate n 0) := by
  apply Array.ext
  · simp [madeCells, u8s]
  · intro i h1 h2
    simp [madeCells, u8s, Value.cells, Nat.mod_one]
/-- make([]uint8, n) as a whole block. -/
theorem wpList_make_u8 {ops : Array Oper} {rest : List Oper} {o : Oper} {a : Act} {W : World} {Q : Exit → Act → World → Prop} (hgd : o.guard = none) (t : TypeId) (x y : Operand) (ho : o.op = .makeSlice t x y) (n : Int) (hx : a.eval x = .int .i64 n) (hy : a.eval y = .int .i64 n) (h0 : 0 ≤ n) (h9 : n ≤ 1000)
    (ht : Try.prog.underlying t = some (.slice 5)) (h : wpList Try.prog ops Q rest (a.put o.dst (.slice (some ⟨W.heap.size, 0, none⟩) n.toNat n.toNat)) (W.alloc (.cells (u8s (List.replicate n.toNat 0)) 5))) : wpList Try.prog ops Q (o :: rest) a W := by
  obtain ⟨i, hi⟩ : ∃ i, Try.prog.info? 5 = some i := by
    have : (Try.prog.info? 5).isSome = true := by kernel_rfl
    exact Option.isSome_iff_exists.mp this
  have hz : (Try.prog.info? 5).map (fun i => (i.zero, i.size, i.bytes)) = some (some (Value.int .u8 0), 1, 1) := by kernel_rfl
  rw [hi, Option.map_some, Option.some.injEq, Prod.mk.injEq, Prod.mk.injEq] at hz
  have hr := run_make (P := Try.prog) W t 5 i (Value.int .u8 0) ht hi hz.1 .i64 .i64 n n h0 (Int.le_refl _) (by rw [hz.2.2]; omega) (by omega)
  rw [hz.2.1, made_u8] at hr
  refine Kd.event_run hgd ?_ h
  simp [execOp, ho, hx, hy, hr]
/-- The first m are written, the rest is as made. -/
def repP (b : Int) (N m : Nat) : List Int := List.replicate m b ++ List.replicate (N - m) 0
theorem repP_len (b : Int) (N m : Nat) (h : m ≤ N) : (repP b N m).length = N := by
  simp only [repP, List.length_append, List.length_replicate]
  omega
theorem repP_row (b : Int) (N m k : Nat) (h : m + k ≤ N) : ((u8s (repP b N m)).toList.take m ++ (List.replicate k (Value.int .u8 b) ++ (u8s (repP b N m)).toList.drop (m + k))).toArray = u8s (repP b N (m + k)) := by
  have e1 : (u8s (repP b N m)).toList = List.replicate m (Value.int .u8 b) ++ List.replicate (N - m) (Value.int .u8 0) := by simp [u8s, repP]
  have e2 : u8s (repP b N (m + k)) = (List.replicate (m + k) (Value.int .u8 b) ++ List.replicate (N - (m + k)) (Value.int .u8 0)).toArray := by simp [u8s, repP]
  rw [e1, e2, List.take_left' (by simp), List.drop_append, List.drop_of_length_le (by simp), List.nil_append, List.drop_replicate, List.length_replicate, ← List.append_assoc, List.replicate_append_replicate]
  congr 3
  omega
theorem rep_cell {w : World} {g : Nat} {b : Int} {N m : Nat} {t : TypeId} (h : w.heap[g]? = some (.cells (u8s (repP b N m)) t (0, 0))) (j : Nat) (hj : j < m) : w.cell? ((⟨g, 0, none⟩ : Addr).add j) = some (.int .u8 b) := by
  have e : (⟨g, 0, none⟩ : Addr).add j = ⟨g, j, none⟩ := by
    unfold Addr.add
    split
    · rename_i h0
      rw [h0]
    · simp
  rw [e]
  refine (blk_cell h j).trans ?_
  simp only [u8s, repP, List.map_append, List.map_replicate, List.getElem?_toArray]
  rw [List.getElem?_append_left (by simpa using hj)]
  simp [hj]
theorem rep_splice (b : Int) (N m k : Nat) (h : m + k ≤ N) : (splice (u8s (repP b N m)).toList m (List.replicate k (Value.int .u8 b))).toArray = u8s (repP b N (m + k)) := by
  unfold splice
  rw [List.length_replicate]
  exact repP_row b N m k h
set_option maxHeartbeats 8000000 in
set_option maxRecDepth 100000 in
theorem mul_calls (n : Int) (h1 : 1 ≤ n) (h8 : n ≤ 8) (w : World) :
    Calls Try.prog 101 #[.int .u64 1, .int .u64 n] w fun e w' => e = .returned (.tuple #[.int .u64 0, .int .u64 n]) ∧ w' = w := by
  have hu1 : bits BinOp.and IntKind.u64 1 4294967295 = 1 := by decide
  have hu0 : bits BinOp.and IntKind.u64 0 4294967295 = 0 := by decide
  have hun : bits BinOp.and IntKind.u64 n 4294967295 = n := by rcases few h1 h8 with rfl | rfl | rfl | rfl | rfl | rfl | rfl | rfl <;> decide
  have hw0 : IntKind.u64.wrap 0 = 0 := by decide
  have hwn : IntKind.u64.wrap n = n := by rcases few h1 h8 with rfl | rfl | rfl | rfl | rfl | rfl | rfl | rfl <;> decide
  have hdn : n / 4294967296 = 0 := by omega
  go_enter Try.func101, Try.ntmps101
  go_wp2
  go_ret2
  exact ⟨rfl, rfl⟩
set_option maxHeartbeats 8000000 in
set_option maxRecDepth 100000 in
theorem repeat_one (A0 : Option Addr) (c0 : Nat) (b n : Int) (h1 : 1 ≤ n) (h8 : n ≤ 8) (w : World) (B0 : Nat) (hB0 : B0 ≤ w.heap.size) (hr0 : Kd.C (Kd.int .u8) w A0 1 [b]) (hc0 : 1 ≤ c0) :
    Calls Try.prog 89 #[.slice A0 1 c0, .int .i64 n] w fun e w' => ∃ v0_ : Value, e = .returned (v0_) ∧ Kd.R (Kd.int .u8) 5 w' B0 (fun _ => True) v0_ (List.replicate n.toNat b) ∧ Below w.heap.size w w' := by
  have HR0 := Aside0.mk hr0
  have HC0 := Aside0.mk hc0
  have HB := Aside0.mk (Below.refl w.heap.size w)
  have HN := Aside0.mk (And.intro h1 h8)
  obtain ⟨AD, e, hcs⟩ := Kd.at_int (Kd.C_alloc hr0 (.cells (u8s (List.replicate n.toNat 0)) 5)) 0 (Int.le_refl _) (by simp)
  cases e
  have HSRC := Aside0.mk hcs
  clear hcs
  have hu1 : bits BinOp.and IntKind.u64 1 4294967295 = 1 := by decide
  have hu0 : bits BinOp.and IntKind.u64 0 4294967295 = 0 := by decide
  have hun : bits BinOp.and IntKind.u64 n 4294967295 = n := by rcases few h1 h8 with rfl | rfl | rfl | rfl | rfl | rfl | rfl | rfl <;> decide
  have hw0 : IntKind.u64.wrap 0 = 0 := by decide
  have hwn : IntKind.u64.wrap n = n := by rcases few h1 h8 with rfl | rfl | rfl | rfl | rfl | rfl | rfl | rfl <;> decide
  have hdn : n / 4294967296 = 0 := by omega
  have hcn : IntKind.i64.wrap n = n := by rcases few h1 h8 with rfl | rfl | rfl | rfl | rfl | rfl | rfl | rfl <;> decide
  clear hr0 hc0
  go_enter Try.func89, Try.ntmps89
  go_wp2_with (first | (go_at_call 101; refine (mul_calls n HN.out.1 HN.out.2 _).mono ?_; rintro e w1 ⟨rfl, rfl⟩) | (refine wpList_make_u8 rfl 27 _ _ rfl n rfl rfl (by have := HN.out; omega) (by have := HN.out; omega) (by kernel_rfl) ?_) | (refine wpList_copy_own rfl _ _ 27 27 rfl 5 (by kernel_rfl) (by kernel_rfl) w1.heap.size 0 n.toNat n.toNat AD 1 c0 rfl rfl (u8s (repP b n.toNat 0)) 5 (show (w1.alloc (.cells (u8s (List.replicate n.toNat 0)) 5)).heap[w1.heap.size]? = some (.cells (u8s (repP b n.toNat 0)) 5 (0, 0)) by rw [show repP b n.toNat 0 = List.replicate n.toNat 0 by simp [repP]]; exact blk_new w1 _) [Value.int .u8 b] ?hn ?hsrc ?hfit ?hone ?_; (case hn => have := HN.out; show 1 = min 1 n.toNat; omega); (case hsrc => intro j v hj; cases j with | zero => (obtain rfl := Option.some.inj hj; exact HSRC.out) | succ j => cases hj); (case hfit => have := HN.out; rw [u8s_size, repP_len _ _ _ (by omega)]; show 0 + 1 ≤ n.toNat; omega); (case hone => intro v hv; rw [List.mem_singleton.mp hv]; rfl); rw [show (((u8s (repP b n.toNat 0)).toList.take 0 ++ ([Value.int .u8 b] ++ (u8s (repP b n.toNat 0)).toList.drop (0 + [Value.int .u8 b].length))).toArray) = u8s (repP b n.toNat (0 + 1)) from repP_row b n.toNat 0 1 (by have := HN.out; omega)]))
  go_loopg [8] (n.toNat - 1) (fun kq v8 w' => ∃ (y : Int) (m : Nat), v8 = .int .i64 y ∧ Aside0 (y = (m : Int) ∧ 1 ≤ m ∧ m + kq = n.toNat) ∧ Aside0 (Below w1.heap.size w1 w') ∧ Aside0 (w'.heap[w1.heap.size]? = some (.cells (u8s (repP b n.toNat m)) 5 (0, 0))))
  case atStart => exact ⟨1, 1, rfl, ⟨by omega, by omega, by have := HN.out; omega⟩, ⟨below_setRow (below_alloc (Below.refl _ _) _) (Nat.le_refl _) _⟩, ⟨setRow_heap _ _ _ _ _ _ (blk_new w1 _)⟩⟩
  case round =>
    obtain ⟨y, m, rfl, HX, HW, H0⟩ := hrel
    cases gk with
    | zero =>
      have hx := HX.out
      have hb : decide (y < max n 0) = false := decide_eq_false (by omega)
      have hN : m = n.toNat := by omega
      have HNN := Aside0.mk hN
      have HN8 := Aside0.mk (show n.toNat ≤ 1000 by have := HN.out; omega)
      clear hx HX hN
      go_wp2
      refine bodyPost_ret (v := .slice (some ⟨w1.heap.size, 0, none⟩) n.toNat n.toNat) (results_single rfl (.tmp .nil)) rfl ?_
      have e := HNN.out
      subst e
      have e : repP b n.toNat n.toNat = List.replicate n.toNat b := by simp [repP]
      have h0 := H0.out
      rw [e] at h0
      exact ⟨_, rfl, own_u8 _ _ (by simp) h0 hB0 HN8.out, HW.out⟩
    | succ k1 =>
      have hx := HX.out
      have hn8 := HN.out
      have p1 : 0 ≤ y := by omega
      have p2 : 0 ≤ n := by omega
      have q1 : y < n := by omega
      have q2 : y ≤ n := by omega
      have hm : y.toNat = m := by omega
      have hb : decide (y < n) = true := decide_eq_true q1
      have q3 : (n.toNat : Int) = n := by omega
      have hne : ¬ n.toNat = m := by omega
      obtain ⟨k, hk⟩ : ∃ k, k = min m (n.toNat - m) := ⟨_, rfl⟩
      have HK := Aside0.mk (show k = min m (n.toNat - m) ∧ m + k ≤ n.toNat ∧ 1 ≤ k ∧ y = (m : Int) ∧ m + (k1 + 1) = n.toNat from ⟨hk, by omega, by omega, by omega, by omega⟩)
      clear hx HX hn8 hk
      go_wp2
      go_region_law (refine step_copy_splice rfl (.tmp 41) (.tmp 44) 27 27 rfl 5 (by kernel_rfl) (by kernel_rfl) (some ⟨w1.heap.size, m, none⟩) (some ⟨w1.heap.size, 0, none⟩) (n.toNat - m) (n.toNat - m) m n.toNat ?hd ?hs w1.heap.size m (u8s (repP b n.toNat m)).toList 5 ?hg (List.replicate k (Value.int .u8 b)) ?hn ?hpos ?hfit ?h1 w1.heap.size w1 ?hb (Nat.le_refl _) ?_; (case hd => first | (go_simp; done) | (go_simp; rfl)); (case hs => first | (go_simp; done) | (go_simp; rfl)); (case hg => refine blk_drew ?_; simpa using H0.out); (case hn => have h := HK.out; rw [List.length_replicate, h.1]; done); (case hpos => intro _; refine ⟨rfl, _, rfl, fun j v hj => ?_⟩; obtain ⟨hj1, hj2⟩ := List.getElem?_eq_some_iff.mp hj; rw [List.length_replicate] at hj1; rw [← hj2, List.getElem_replicate]; exact rep_cell (blk_drew H0.out) j (by have h := HK.out; omega)); (case hfit => have h := HK.out; rw [List.length_replicate, Array.length_toList, u8s_size, repP_len _ _ _ (by omega)]; exact h.2.1); (case h1 => intro v hv; rw [List.eq_of_mem_replicate hv]; rfl); (case hb => exact below_drew1 HW.out); intro w4 hg4 hb4)
      go_wp2
      go_roundg (n.toNat - (m + k))
      case measure => have := HK.out; omega
      case rel =>
        have hk := HK.out
        refine ⟨_, m + k, rfl, ⟨?_, by omega, by omega⟩, ⟨hb4⟩, ⟨?_⟩⟩
        · have hn8 := HN.out
          have e : y + (k : Int) = ((m + k : Nat) : Int) := by omega
          rw [e]
          unfold IntKind.wrap
          simp [IntKind.bits, IntKind.signed]
          omega
        · rw [← rep_splice b n.toNat m k hk.2.1]
          exact hg4
def impl_repeated.f (a0 : Int) (a1 : Int) : Option (List Int) := if 1 ≤ a1 ∧ a1 ≤ 8 then some (List.replicate a1.toNat (a0 % 256)) else none
set_option maxHeartbeats 4000000 in
theorem impl_repeated.calls (a0 : Int) (a1 : Int) (r : List Int) (w : World) (h : impl_repeated.f a0 a1 = some r) :
    Calls Try.prog 56 #[.int .i64 a0, .int .i64 a1] w fun e w' => ∃ v0_ : Value, e = .returned (v0_) ∧ Kd.R (Kd.int .u8) 5 w' w.heap.size (fun _ => True) v0_ r ∧ Below w.heap.size w w' := by
  unfold impl_repeated.f at h
  split at h
  · rename_i h18
    obtain rfl := Option.some.inj h
    clear h
    have H18 := Aside0.mk h18
    go_enter Try.func56, Try.ntmps56
    have hC : Kd.C (Kd.int .u8) (w.alloc (.cells #[.int .u8 (a0 % 256)] 5)) (some ⟨w.heap.size, 0, none⟩) 1 [a0 % 256] := (Kd.R_reads' (own_u8 (w := w.alloc (.cells #[.int .u8 (a0 % 256)] 5)) (g := w.heap.size) (base := w.heap.size) [a0 % 256] 1 rfl (blk_new w _) (Nat.le_refl _) (by omega))).2.2
    have HC := Aside0.mk hC
    clear hC
    go_wp2_with (first | (go_at_call 89; refine (repeat_one (some ⟨w.heap.size, 0, none⟩) 1 (a0 % 256) a1 H18.out.1 H18.out.2 _ w.heap.size (by simp) HC.out (by omega)).mono ?_; rintro e w2 ⟨v, rfl, hR, hB⟩; have HR := Aside0.mk hR; have HBB := Aside0.mk hB; clear hR hB))
    refine bodyPost_ret (v := v) (results_single rfl (.tmp .nil)) rfl ?_
    exact ⟨_, rfl, HR.out, (below_alloc (Below.refl _ _) _).trans (HBB.out.mono (by simp))⟩
  · cases h
end Go.Proofs.Ytcapjgjjaolofaa.P
