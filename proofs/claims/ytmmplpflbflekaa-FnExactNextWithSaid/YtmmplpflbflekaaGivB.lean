/- Contracts of functions that the print does not take: digits as arrays. -/
import Derived.Test.YtmmplpflbflekaaPx0
import Derived.Laws.Rows
import Derived.Laws.Tables
import Derived.Laws.CopyOwn
namespace Go.Proofs.Ytmmplpflbflekaa.P
open Go.RowKit Go.Proofs.YtmmplpflbflekaaW.PrintWords Go.Proofs.YtmmplpflbflekaaW.PrintLast Go.Proofs.YtmmplpflbflekaaW.PrintMore
set_option linter.unusedVariables false
set_option linter.unusedSimpArgs false
/-- Bytes as cells. -/
def u8s (l : List Int) : Array Value := (l.map (Value.int .u8)).toArray
theorem u8s_get (l : List Int) (i : Nat) (h : i < l.length) : (u8s l)[i]? = some (.int .u8 (l.getD i 0)) := by
  simp [u8s, List.getElem?_eq_getElem h, List.getD]
theorem u8s_set (l : List Int) (i : Nat) (x : Int) : (u8s l).setIfInBounds i (.int .u8 x) = u8s (l.set i x) := by
  simp [u8s, List.map_set]
theorem drop_rd (l : List Int) (x : Int) (h0 : 0 ≤ x) (h1 : x < (l.length : Int)) : l.drop x.toNat = rd l x :: l.drop (x + 1).toNat := by
  have e : (x + 1).toNat = x.toNat + 1 := by omega
  rw [e, List.drop_eq_getElem_cons (show x.toNat < l.length by omega)]
  simp [rd, List.getD, List.getElem?_eq_getElem (show x.toNat < l.length by omega)]
theorem u8s_size (l : List Int) : (u8s l).size = l.length := by simp [u8s]
theorem u8s_one (l : List Int) : (u8s l).all (·.oneCell') = true := by simp [u8s, Value.oneCell']
theorem info_dig : (Try.prog.info? 35).map (·.size) = some 8 := by kernel_rfl
theorem info_u8 (l : List Int) (h : l.length = 8) : (Try.prog.info? 35).map (·.size) = some (u8s l).size := by rw [info_dig, u8s_size, h]
theorem blk_u8 {w : World} {g : Nat} {t : TypeId} {l : List Int} (h : w.heap[g]? = some (.cells (u8s l) t (0, 0))) (x : Int) (h0 : 0 ≤ x) (h1 : x < l.length) : w.cell? ⟨g, x.toNat, none⟩ = some (.int .u8 (rd l x)) :=
  (blk_cell h x.toNat).trans (u8s_get l x.toNat (by omega))
theorem blk_u8_set {w : World} {g : Nat} {t : TypeId} {l : List Int} (h : w.heap[g]? = some (.cells (u8s l) t (0, 0))) (i : Nat) (x : Int) : (w.setCell ⟨g, i, none⟩ (.int .u8 x)).heap[g]? = some (.cells (u8s (l.set i x)) t (0, 0)) :=
  blk_put h i _ (u8s_set l i x)
theorem list8 {l : List Int} (h : l.length = 8) : ∃ a0 a1 a2 a3 a4 a5 a6 a7, l = [a0, a1, a2, a3, a4, a5, a6, a7] := by
  match l, h with
  | [a0, a1, a2, a3, a4, a5, a6, a7], _ => exact ⟨a0, a1, a2, a3, a4, a5, a6, a7, rfl⟩
theorem take_set (o a : List Int) (x : Int) (h0 : 0 ≤ x) (h1 : x < o.length) (h2 : o.length = a.length) (h : o.take x.toNat = a.take x.toNat) : (o.set x.toNat (rd a x)).take (x + 1).toNat = a.take (x + 1).toNat := by
  have e : (x + 1).toNat = x.toNat + 1 := by omega
  rw [e, List.take_succ_eq_append_getElem (by rw [List.length_set]; omega), List.take_succ_eq_append_getElem (by omega), List.getElem_set_self, List.take_set_of_le (Nat.le_refl _), h]
  simp [rd, List.getD, List.getElem?_eq_getElem (show x.toNat < a.length by omega)]
set_option maxHeartbeats 8000000 in
set_option maxRecDepth 100000 in
theorem toDigits_list (a : List Int) (ha : a.length = 8) (w : World) : Calls Try.prog 26 #[.agg (u8s a)] w fun e w' => e = .returned (.agg (u8s a)) ∧ Below w.heap.size w w' := by
  have HA := Aside0.mk ha
  clear ha
  go_enter Try.func26, Try.ntmps26
  go_wp2
  go_loopg [4] 8 (fun kq v4 w' => ∃ (x : Int) (o : List Int), v4 = .int .i64 x ∧ Aside0 (0 ≤ x ∧ x + kq = 8 ∧ o.length = 8 ∧ o.take x.toNat = a.take x.toNat) ∧ Aside0 (Below w.heap.size w w') ∧ Aside0 (w'.heap[w.heap.size]? = some (.cells (u8s a) 33 (0, 0))) ∧ Aside0 (w'.heap[w.heap.size + 1]? = some (.cells #[.int .u8 0, .int .u8 0, .int .u8 0, .int .u8 0, .int .u8 0, .int .u8 0, .int .u8 0, .int .u8 0] 35 (0, 0))) ∧ Aside0 (w'.heap[w.heap.size + 1 + 1]? = some (.cells (u8s o) 35 (0, 0))))
  case atStart =>
    refine ⟨0, [0, 0, 0, 0, 0, 0, 0, 0], rfl, ⟨by omega, by omega, rfl, rfl⟩, ⟨below_alloc (below_alloc (below_alloc (Below.refl _ _) _) _) _⟩, ⟨blk_alloc (blk_alloc (blk_new w _) _) _⟩, ⟨?_⟩, ⟨?_⟩⟩
    · have := blk_alloc (blk_new (w.alloc (.cells (u8s a) 33)) (.cells #[.int .u8 0, .int .u8 0, .int .u8 0, .int .u8 0, .int .u8 0, .int .u8 0, .int .u8 0, .int .u8 0] 35)) (.cells #[.int .u8 0, .int .u8 0, .int .u8 0, .int .u8 0, .int .u8 0, .int .u8 0, .int .u8 0, .int .u8 0] 35)
      simpa using this
    · show _ = some (Obj.cells #[.int .u8 0, .int .u8 0, .int .u8 0, .int .u8 0, .int .u8 0, .int .u8 0, .int .u8 0, .int .u8 0] 35 (0, 0))
      have := blk_new ((w.alloc (.cells (u8s a) 33)).alloc (.cells #[.int .u8 0, .int .u8 0, .int .u8 0, .int .u8 0, .int .u8 0, .int .u8 0, .int .u8 0, .int .u8 0] 35)) (.cells #[.int .u8 0, .int .u8 0, .int .u8 0, .int .u8 0, .int .u8 0, .int .u8 0, .int .u8 0, .int .u8 0] 35)
      simpa using this
  case round =>
    obtain ⟨x, o, rfl, HX, HB, H0, H1, H2⟩ := hrel
    cases gk with
    | zero =>
      have hx := HX.out
      have hb : decide (x < 8) = false := decide_eq_false (by omega)
      have he : o = a := by
        have h3 := hx.2.2.2
        rw [List.take_of_length_le (by omega), List.take_of_length_le (by have := HA.out; omega)] at h3
        exact h3
      subst he
      have Hlen := Aside0.mk hx.2.2.1
      clear hx HX HA H0
      have HI := Aside0.mk (info_u8 o Hlen.out)
      have HO := Aside0.mk (show (#[.int .u8 0, .int .u8 0, .int .u8 0, .int .u8 0, .int .u8 0, .int .u8 0, .int .u8 0, .int .u8 0] : Array Value).size = (u8s o).size by rw [u8s_size, Hlen.out]; rfl)
      go_wp2_with (first | (refine wpList_load_row rfl 35 (.tmp 3) rfl (w.heap.size + 1 + 1) rfl 35 (u8s o) (0, 0) _ H2.out Try.underlying35 rfl HI.out ?_) | (refine wpList_store_row rfl 35 (.tmp 2) (.tmp 14) rfl (w.heap.size + 1) (u8s o) rfl rfl 35 _ H1.out HI.out HO.out (u8s_one o) ?_))
      refine bodyPost_ret (results_single rfl (.cell (w.heap.size + 1) 35 (u8s o) (0, 0) _ rfl (setRow_heap _ _ _ _ _ _ H1.out) Try.underlying35 rfl HI.out .nil)) rfl ⟨rfl, ?_⟩
      exact below_setRow HB.out (by omega) _
    | succ k1 =>
      have hx := HX.out
      have p1 : 0 ≤ x := hx.1
      have q1 : x < 8 := by omega
      have hb : decide (x < 8) = true := decide_eq_true q1
      have hc0 := blk_u8 H0.out x p1 (by have := HA.out; omega)
      have hc2 := blk_u8 H2.out x p1 (by omega)
      have hf2 := blk_frozen H2.out x.toNat
      have hw : wrap64 (x + 1) = x + 1 := Go.IntWalk.wrap64_in _ (by omega)
      have HN := Aside0.mk (show 0 ≤ wrap64 (x + 1) ∧ wrap64 (x + 1) + k1 = 8 ∧ (o.set x.toNat (rd a x)).length = 8 ∧ (o.set x.toNat (rd a x)).take (wrap64 (x + 1)).toNat = a.take (wrap64 (x + 1)).toNat by
        rw [hw]; exact ⟨by omega, by omega, by rw [List.length_set]; omega, take_set o a x p1 (by omega) (by have := HA.out; omega) hx.2.2.2⟩)
      clear hx hw HX
      replace p1 := eq_true p1
      replace q1 := eq_true q1
      go_wp2
      go_roundg k1
      case measure => omega
      case rel =>
        refine ⟨wrap64 (x + 1), o.set x.toNat (rd a x), rfl, HN, ⟨below_set HB.out (show w.heap.size ≤ w.heap.size + 1 + 1 by omega)⟩, ⟨blk_far H0.out (show w.heap.size ≠ w.heap.size + 1 + 1 by omega) _⟩, ⟨blk_far H1.out (show w.heap.size + 1 ≠ w.heap.size + 1 + 1 by omega) _⟩, ⟨blk_u8_set H2.out _ _⟩⟩
end Go.Proofs.Ytmmplpflbflekaa.P
