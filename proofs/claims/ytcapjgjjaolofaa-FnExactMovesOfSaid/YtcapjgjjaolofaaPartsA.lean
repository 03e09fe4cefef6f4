/- Contracts of functions that the print does not take: the parts of wheels as arrays. -/
import Derived.Test.YtcapjgjjaolofaaGivC
namespace Go.Proofs.Ytcapjgjjaolofaa.P
open Go.RowKit Go.Proofs.YtcapjgjjaolofaaW.PrintWords Go.Proofs.YtcapjgjjaolofaaW.PrintLast Go.Proofs.YtcapjgjjaolofaaW.PrintMore
set_option linter.unusedVariables false
set_option linter.unusedSimpArgs false
/-- A row's load under a guard that lets it be. -/
theorem wpList_load_row_g {P : Program} {ops : Array Oper} {rest : List Oper} {o : Oper} {a : Act} {w : World} {Q : Exit → Act → World → Prop} (hgd : Region.wanted o (yielded ops a.tmps) = true) (ty : TypeId) (x : Operand) (ho : o.op = .load ty x)
    (g : Nat) (hx : a.eval x = .pointer (some ⟨g, 0, none⟩)) (t : TypeId) (cs : Array Value) (fr : Nat × Nat) (d : TypeDesc) (hg : w.heap[g]? = some (.cells cs t fr))
    (hu : P.underlying ty = some d) (hd : (match d with | .struct _ | .array _ _ => true | _ => false) = true) (hi : (P.info? ty).map (·.size) = some cs.size)
    (h : wpList P ops Q rest (a.put o.dst (.agg cs)) w) : wpList P ops Q (o :: rest) a w := by
  unfold wpList
  rw [if_pos hgd]
  exact .inl (wp_load_row ty x ho g hx t cs fr d hg hu hd hi h)
/-- Numbers as cells. -/
def i64s (l : List Int) : Array Value := (l.map (Value.int .i64)).toArray
theorem i64s_get (l : List Int) (i : Nat) (h : i < l.length) : (i64s l)[i]? = some (.int .i64 (l.getD i 0)) := by
  simp [i64s, List.getElem?_eq_getElem h, List.getD]
theorem i64s_set (l : List Int) (i : Nat) (x : Int) : (i64s l).setIfInBounds i (.int .i64 x) = i64s (l.set i x) := by
  simp [i64s, List.map_set]
theorem i64s_size (l : List Int) : (i64s l).size = l.length := by simp [i64s]
theorem i64s_one (l : List Int) : (i64s l).all (·.oneCell') = true := by simp [i64s, Value.oneCell']
theorem info_parts : (Try.prog.info? 55).map (·.size) = some 8 := by kernel_rfl
theorem info_i64 (l : List Int) (h : l.length = 8) : (Try.prog.info? 55).map (·.size) = some (i64s l).size := by rw [info_parts, i64s_size, h]
theorem blk_i64 {w : World} {g : Nat} {t : TypeId} {l : List Int} (h : w.heap[g]? = some (.cells (i64s l) t (0, 0))) (x : Int) (h0 : 0 ≤ x) (h1 : x < l.length) : w.cell? ⟨g, x.toNat, none⟩ = some (.int .i64 (rd l x)) :=
  (blk_cell h x.toNat).trans (i64s_get l x.toNat (by omega))
theorem blk_i64_set {w : World} {g : Nat} {t : TypeId} {l : List Int} (h : w.heap[g]? = some (.cells (i64s l) t (0, 0))) (i : Nat) (x : Int) : (w.setCell ⟨g, i, none⟩ (.int .i64 x)).heap[g]? = some (.cells (i64s (l.set i x)) t (0, 0)) :=
  blk_put h i _ (i64s_set l i x)
set_option maxHeartbeats 8000000 in
set_option maxRecDepth 100000 in
theorem toParts_list (a : List Int) (ha : a.length = 8) (w : World) : Calls Try.prog 34 #[.agg (i64s a)] w fun e w' => e = .returned (.agg (i64s a)) ∧ Below w.heap.size w w' := by
  have HA := Aside0.mk ha
  clear ha
  go_enter Try.func34, Try.ntmps34
  go_wp2
  go_loopg [4] 8 (fun kq v4 w' => ∃ (x : Int) (o : List Int), v4 = .int .i64 x ∧ Aside0 (0 ≤ x ∧ x + kq = 8 ∧ o.length = 8 ∧ o.take x.toNat = a.take x.toNat) ∧ Aside0 (Below w.heap.size w w') ∧ Aside0 (w'.heap[w.heap.size]? = some (.cells (i64s a) 24 (0, 0))) ∧ Aside0 (w'.heap[w.heap.size + 1]? = some (.cells #[.int .i64 0, .int .i64 0, .int .i64 0, .int .i64 0, .int .i64 0, .int .i64 0, .int .i64 0, .int .i64 0] 55 (0, 0))) ∧ Aside0 (w'.heap[w.heap.size + 1 + 1]? = some (.cells (i64s o) 55 (0, 0))))
  case atStart =>
    refine ⟨0, [0, 0, 0, 0, 0, 0, 0, 0], rfl, ⟨by omega, by omega, rfl, rfl⟩, ⟨below_alloc (below_alloc (below_alloc (Below.refl _ _) _) _) _⟩, ⟨blk_alloc (blk_alloc (blk_new w _) _) _⟩, ⟨?_⟩, ⟨?_⟩⟩
    · have := blk_alloc (blk_new (w.alloc (.cells (i64s a) 24)) (.cells #[.int .i64 0, .int .i64 0, .int .i64 0, .int .i64 0, .int .i64 0, .int .i64 0, .int .i64 0, .int .i64 0] 55)) (.cells #[.int .i64 0, .int .i64 0, .int .i64 0, .int .i64 0, .int .i64 0, .int .i64 0, .int .i64 0, .int .i64 0] 55)
      simpa using this
    · show _ = some (Obj.cells #[.int .i64 0, .int .i64 0, .int .i64 0, .int .i64 0, .int .i64 0, .int .i64 0, .int .i64 0, .int .i64 0] 55 (0, 0))
      have := blk_new ((w.alloc (.cells (i64s a) 24)).alloc (.cells #[.int .i64 0, .int .i64 0, .int .i64 0, .int .i64 0, .int .i64 0, .int .i64 0, .int .i64 0, .int .i64 0] 55)) (.cells #[.int .i64 0, .int .i64 0, .int .i64 0, .int .i64 0, .int .i64 0, .int .i64 0, .int .i64 0, .int .i64 0] 55)
      simpa using this
  case round =>
    obtain ⟨x, o, rfl, HX, HB, H0, H1, H2⟩ := hrel
    cases gk with
    | zero =>
      have hx := HX.out
      have hb : decide (x < 8) = false := decide_eq_false (by omega)
      have he : o = a := by
        have h3 := hx.2.2.2
        rw [List.take_of_length_le (by omega), List.take_of_length_le (by have := HA.out; omega)] at h3
        exact h3
      subst he
      have Hlen := Aside0.mk hx.2.2.1
      clear hx HX HA H0
      have HI := Aside0.mk (info_i64 o Hlen.out)
      have HO := Aside0.mk (show (#[.int .i64 0, .int .i64 0, .int .i64 0, .int .i64 0, .int .i64 0, .int .i64 0, .int .i64 0, .int .i64 0] : Array Value).size = (i64s o).size by rw [i64s_size, Hlen.out]; rfl)
      go_wp2_with (first | (refine wpList_load_row rfl 55 (.tmp 3) rfl (w.heap.size + 1 + 1) rfl 55 (i64s o) (0, 0) _ H2.out Try.underlying55 rfl HI.out ?_) | (refine wpList_store_row rfl 55 (.tmp 2) (.tmp 14) rfl (w.heap.size + 1) (i64s o) rfl rfl 55 _ H1.out HI.out HO.out (i64s_one o) ?_))
      refine bodyPost_ret (results_single rfl (.cell (w.heap.size + 1) 55 (i64s o) (0, 0) _ rfl (setRow_heap _ _ _ _ _ _ H1.out) Try.underlying55 rfl HI.out .nil)) rfl ⟨rfl, ?_⟩
      exact below_setRow HB.out (by omega) _
    | succ k1 =>
      have hx := HX.out
      have p1 : 0 ≤ x := hx.1
      have q1 : x < 8 := by omega
      have hb : decide (x < 8) = true := decide_eq_true q1
      have hc0 := blk_i64 H0.out x p1 (by have := HA.out; omega)
      have hc2 := blk_i64 H2.out x p1 (by omega)
      have hf2 := blk_frozen H2.out x.toNat
      have hw : wrap64 (x + 1) = x + 1 := Go.IntWalk.wrap64_in _ (by omega)
      have HN := Aside0.mk (show 0 ≤ wrap64 (x + 1) ∧ wrap64 (x + 1) + k1 = 8 ∧ (o.set x.toNat (rd a x)).length = 8 ∧ (o.set x.toNat (rd a x)).take (wrap64 (x + 1)).toNat = a.take (wrap64 (x + 1)).toNat by
        rw [hw]; exact ⟨by omega, by omega, by rw [List.length_set]; omega, take_set o a x p1 (by omega) (by have := HA.out; omega) hx.2.2.2⟩)
      clear hx hw HX
      replace p1 := eq_true p1
      replace q1 := eq_true q1
      go_wp2
      go_roundg k1
      case measure => omega
      case rel =>
        refine ⟨wrap64 (x + 1), o.set x.toNat (rd a x), rfl, HN, ⟨below_set HB.out (show w.heap.size ≤ w.heap.size + 1 + 1 by omega)⟩, ⟨blk_far H0.out (show w.heap.size ≠ w.heap.size + 1 + 1 by omega) _⟩, ⟨blk_far H1.out (show w.heap.size + 1 ≠ w.heap.size + 1 + 1 by omega) _⟩, ⟨blk_i64_set H2.out _ _⟩⟩
theorem index_i64 (l : List Int) (h8 : l.length = 8) (x : Int) (h0 : 0 ≤ x) (h1 : x < 8) : ∀ w, (Instr.index 55 (.agg (i64s l)) (.int .i64 x)).run Try.prog w = .ok (.int .i64 (rd l x)) w := by
  intro w
  have hn : 0 ≤ x ∧ x < (8 : Nat) := ⟨h0, by omega⟩
  simp [Instr.index, run_underlying Try.underlying55, asIntOf, hn, go_sem]
  rw [if_pos h1, i64s_get l x.toNat (by omega)]
  rfl
set_option maxHeartbeats 8000000 in
set_option maxRecDepth 100000 in
theorem eqParts_list (a b : List Int) (ha : a.length = 8) (hb : b.length = 8) (w : World) : Calls Try.prog 36 #[.agg (i64s a), .agg (i64s b)] w fun e w' => e = .returned (.bool (decide (a = b))) ∧ Below w.heap.size w w' := by
  have HA := Aside0.mk ha
  have HB := Aside0.mk hb
  clear ha hb
  go_enter Try.func36, Try.ntmps36
  go_wp2
  go_loopg [5] 8 (fun kq v5 w' => ∃ (x : Int), v5 = .int .i64 x ∧ Aside0 (0 ≤ x ∧ x + kq = 8 ∧ (a = b ↔ a.drop x.toNat = b.drop x.toNat)) ∧ Aside0 (Below w.heap.size w w') ∧ Aside0 (w'.heap[w.heap.size]? = some (.cells (i64s a) 55 (0, 0))) ∧ Aside0 (w'.heap[w.heap.size + 1]? = some (.cells (i64s b) 55 (0, 0))))
  case atStart =>
    refine ⟨0, rfl, ⟨by omega, by omega, by simp⟩, ⟨below_alloc (below_alloc (Below.refl _ _) _) _⟩, ⟨blk_alloc (blk_new w _) _⟩, ⟨?_⟩⟩
    have := blk_new (w.alloc (.cells (i64s a) 55)) (.cells (i64s b) 55)
    simpa using this
  case round =>
    obtain ⟨x, rfl, HX, HW, H0, H1⟩ := hrel
    cases gk with
    | zero =>
      have hx := HX.out
      have hb : decide (x < 8) = false := decide_eq_false (by omega)
      have hres : decide (a = b) = true := by
        rw [decide_eq_true_eq, hx.2.2, List.drop_eq_nil_of_le (by have := HA.out; omega), List.drop_eq_nil_of_le (by have := HB.out; omega)]
      have Hr := Aside0.mk hres
      clear hx hres HX
      go_wp2
      go_ret
      exact ⟨by (rw [Hr.out]; first | done | rfl), HW.out⟩
    | succ k1 =>
      have hx := HX.out
      have p1 : 0 ≤ x := hx.1
      have q1 : x < 8 := by omega
      have hb : decide (x < 8) = true := decide_eq_true q1
      have hc0 := blk_i64 H0.out x p1 (by have := HA.out; omega)
      have hc1 := blk_i64 H1.out x p1 (by have := HB.out; omega)
      have hd := rd_drop_eq a b x p1 (by have := HA.out; omega) (by have := HA.out; have := HB.out; omega)
      have hw : wrap64 (x + 1) = x + 1 := Go.IntWalk.wrap64_in _ (by omega)
      by_cases hne : rd a x = rd b x
      · have hn1 : (rd a x != rd b x) = false := by simpa using hne
        have HN := Aside0.mk (show 0 ≤ wrap64 (x + 1) ∧ wrap64 (x + 1) + k1 = 8 ∧ (a = b ↔ a.drop (wrap64 (x + 1)).toNat = b.drop (wrap64 (x + 1)).toNat) by
          rw [hw]
          exact ⟨by omega, by omega, by rw [hx.2.2, hd]; exact ⟨fun h => h.2, fun h => ⟨hne, h⟩⟩⟩)
        clear hx hw HX hd hne
        replace p1 := eq_true p1
        replace q1 := eq_true q1
        go_wp2
        go_quiet (fail)
        go_wp2
        go_roundg k1
        case measure => omega
        case rel =>
          exact ⟨wrap64 (x + 1), rfl, HN, ⟨pw_below_drewN HW.out _⟩, ⟨H0.out⟩, ⟨H1.out⟩⟩
      · have hn1 : (rd a x != rd b x) = true := by simpa using hne
        have hres : decide (a = b) = false := by
          rw [decide_eq_false_iff_not, hx.2.2, hd]
          exact fun h => hne h.1
        have Hr := Aside0.mk hres
        clear hx hw HX hd hne hres
        replace p1 := eq_true p1
        replace q1 := eq_true q1
        go_wp2
        go_quiet (fail)
        go_wp2
        go_ret
        exact ⟨by (rw [Hr.out]; first | done | rfl), pw_below_drewN HW.out _⟩
def laws_toParts.f (a0_0 : Int) (a0_1 : Int) (a0_2 : Int) (a0_3 : Int) (a0_4 : Int) (a0_5 : Int) (a0_6 : Int) (a0_7 : Int) : Option (Int × Int × Int × Int × Int × Int × Int × Int) := some (a0_0, a0_1, a0_2, a0_3, a0_4, a0_5, a0_6, a0_7)
theorem laws_toParts.calls (a0_0 : Int) (a0_1 : Int) (a0_2 : Int) (a0_3 : Int) (a0_4 : Int) (a0_5 : Int) (a0_6 : Int) (a0_7 : Int) (r1 : Int) (r2 : Int) (r3 : Int) (r4 : Int) (r5 : Int) (r6 : Int) (r7 : Int) (r8 : Int) (w : World) (h : laws_toParts.f a0_0 a0_1 a0_2 a0_3 a0_4 a0_5 a0_6 a0_7 = some (r1, r2, r3, r4, r5, r6, r7, r8)) :
    Calls Try.prog 34 #[.agg #[.int .i64 a0_0, .int .i64 a0_1, .int .i64 a0_2, .int .i64 a0_3, .int .i64 a0_4, .int .i64 a0_5, .int .i64 a0_6, .int .i64 a0_7]] w fun e w' => e = .returned (.agg #[.int .i64 r1, .int .i64 r2, .int .i64 r3, .int .i64 r4, .int .i64 r5, .int .i64 r6, .int .i64 r7, .int .i64 r8]) ∧ Below w.heap.size w w' := by
  simp only [laws_toParts.f, Option.some.injEq, Prod.mk.injEq] at h
  obtain ⟨rfl, rfl, rfl, rfl, rfl, rfl, rfl, rfl⟩ := h
  exact toParts_list [a0_0, a0_1, a0_2, a0_3, a0_4, a0_5, a0_6, a0_7] rfl w
def laws_eqParts.f (a0_0 : Int) (a0_1 : Int) (a0_2 : Int) (a0_3 : Int) (a0_4 : Int) (a0_5 : Int) (a0_6 : Int) (a0_7 : Int) (a1_0 : Int) (a1_1 : Int) (a1_2 : Int) (a1_3 : Int) (a1_4 : Int) (a1_5 : Int) (a1_6 : Int) (a1_7 : Int) : Option Bool := some (decide ([a0_0, a0_1, a0_2, a0_3, a0_4, a0_5, a0_6, a0_7] = [a1_0, a1_1, a1_2, a1_3, a1_4, a1_5, a1_6, a1_7]))
theorem laws_eqParts.calls (a0_0 : Int) (a0_1 : Int) (a0_2 : Int) (a0_3 : Int) (a0_4 : Int) (a0_5 : Int) (a0_6 : Int) (a0_7 : Int) (a1_0 : Int) (a1_1 : Int) (a1_2 : Int) (a1_3 : Int) (a1_4 : Int) (a1_5 : Int) (a1_6 : Int) (a1_7 : Int) (r : Bool) (w : World) (h : laws_eqParts.f a0_0 a0_1 a0_2 a0_3 a0_4 a0_5 a0_6 a0_7 a1_0 a1_1 a1_2 a1_3 a1_4 a1_5 a1_6 a1_7 = some r) :
    Calls Try.prog 36 #[.agg #[.int .i64 a0_0, .int .i64 a0_1, .int .i64 a0_2, .int .i64 a0_3, .int .i64 a0_4, .int .i64 a0_5, .int .i64 a0_6, .int .i64 a0_7], .agg #[.int .i64 a1_0, .int .i64 a1_1, .int .i64 a1_2, .int .i64 a1_3, .int .i64 a1_4, .int .i64 a1_5, .int .i64 a1_6, .int .i64 a1_7]] w fun e w' => e = .returned (.bool r) ∧ Below w.heap.size w w' := by
  obtain rfl := Option.some.inj h
  exact eqParts_list [a0_0, a0_1, a0_2, a0_3, a0_4, a0_5, a0_6, a0_7] [a1_0, a1_1, a1_2, a1_3, a1_4, a1_5, a1_6, a1_7] rfl rfl w
end Go.Proofs.Ytcapjgjjaolofaa.P
