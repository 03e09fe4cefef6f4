/- Arguments that came in, laid open: whatever reads as data of a type is of the type's kind, in the words of the printed contracts. -/
import Derived.Test.YtdgillfbdlmloaaDoorWWords
import Derived.Deep.Slices
import Derived.Deep.Strs
import Derived.OpenShut
import Derived.RowKit
namespace Go.Proofs.YtdgillfbdlmloaaDoor.Open
open Go.ChangeShapes Go.WideShapes Go.RowKit Go.Deep Go.Proofs.YtdgillfbdlmloaaDoorW.PrintWords

variable {H : Type} {enc : TypeId × Value → H} {P : Program} {W : World}

/-- Whatever reads as data of type t is of the kind d, and fits. -/
def Opens (enc : TypeId × Value → H) (P : Program) (W : World) (t : TypeId) {α : Type} (d : Kd α) (fit : α → Prop) : Prop :=
  P.cellsOf t = d.sz ∧ ∀ (fuel : Nat) (cs : List Value) (y : DataW H × List MemPlace), DataW.trod enc P W 0 (fun _ => true) true fuel t cs = some y → ∃ x, d.K W x cs ∧ fit x

theorem opens_int {t : TypeId} {k : IntKind} (ht : P.underlying t = some (.int k)) (hc : P.cellsOf t = 1) : Opens enc P W t (Kd.int k) (fun x => (Lit.int k x).wf = true) :=
  ⟨hc, fun _ _ _ h => by
    obtain ⟨a, e0, _, wa⟩ := DataW.trod_int ht h
    exact ⟨a, e0, wa⟩⟩

theorem opens_slice {α : Type} {t e : TypeId} {d : Kd α} {fit : α → Prop} (ht : P.underlying t = some (.slice e)) (hc : P.cellsOf t = 1) (he : Opens enc P W e d fit) :
    Opens enc P W t (Kd.slice e d) (fun l => l.length ≤ maxLen ∧ ∀ x ∈ l, fit x) := by
  refine ⟨hc, fun fuel cs y h => ?_⟩
  rcases Go.Deep.open_slice ht h with ⟨rfl, _⟩ | ⟨a, len, cap, m, n, D, Pl, rfl, _, hl, hm, hmm, _, hx⟩
  · exact ⟨[], ⟨none, 0, rfl, Nat.le_refl _, Kd.C_nil _ _⟩, Nat.zero_le _, by simp⟩
  · obtain rfl : m = cap := by simpa using hmm
    have hx' : ∀ i, i < len → ∃ x, ∃ cs', W.cells? 0 (a.add (i * P.cellsOf e)) (P.cellsOf e) = some cs' ∧ d.K W x cs' ∧ fit x := fun i hi => by
      obtain ⟨cs', h1, h2⟩ := hx i (by omega)
      obtain ⟨x, k, f⟩ := he.2 _ _ _ h2
      exact ⟨x, cs', h1, k, f⟩
    have build : ∀ n, n ≤ len → ∃ l : List α, l.length = n ∧ ∀ j x, l[j]? = some x → ∃ cs', W.cells? 0 (a.add (j * P.cellsOf e)) (P.cellsOf e) = some cs' ∧ d.K W x cs' ∧ fit x := by
      intro n
      induction n with
      | zero => exact fun _ => ⟨[], rfl, by simp⟩
      | succ n ih =>
        intro hn
        obtain ⟨l, hl1, hl2⟩ := ih (by omega)
        obtain ⟨x, cs', h1, h2, h3⟩ := hx' n (by omega)
        refine ⟨l ++ [x], by simp [hl1], fun j z hj => ?_⟩
        by_cases hjn : j < n
        · rw [List.getElem?_append_left (by omega)] at hj
          exact hl2 j z hj
        · have hj' : j = n := by
            have := (List.getElem?_eq_some_iff.1 hj).1
            simp at this
            omega
          subst hj'
          rw [← hl1, List.getElem?_concat_length] at hj
          injection hj with hj
          subst hj
          exact ⟨cs', h1, h2, h3⟩
    obtain ⟨l, hl1, hl2⟩ := build len (Nat.le_refl _)
    refine ⟨l, ⟨some a, m, by rw [hl1], by omega, ?_⟩, by omega, fun x hxl => ?_⟩
    · refine ⟨rfl, ?_, fun _ => ⟨a, rfl, fun j p hj => ?_⟩⟩
      · unfold maxLen at hm
        omega
      · obtain ⟨cs', h1, h2, _⟩ := hl2 j p hj
        refine ⟨cs', d.K_len h2, h2, fun i u hu => ?_⟩
        rw [he.1] at h1
        obtain ⟨_, hlen, hcell⟩ := World.cells?_some h1
        have hi : i < d.sz := by
          have := (List.getElem?_eq_some_iff.1 hu).1
          omega
        have := hcell i hi
        rw [Go.Deep.add_add] at this
        rw [this, hu]
    · obtain ⟨j, hj⟩ := List.mem_iff_getElem?.1 hxl
      obtain ⟨_, _, _, f⟩ := hl2 j x hj
      exact f

theorem opens_struct2 {α β : Type} {t : TypeId} {f0 f1 : Field} {d0 : Kd α} {d1 : Kd β} {fit0 : α → Prop} {fit1 : β → Prop} (ht : P.underlying t = some (.struct #[f0, f1])) (hc : P.cellsOf t = d0.sz + d1.sz)
    (o0 : f0.offset = 0) (o1 : f1.offset = d0.sz) (h0 : Opens enc P W f0.type d0 fit0) (h1 : Opens enc P W f1.type d1 fit1) :
    Opens enc P W t (Kd.pair d0 d1) (fun x => fit0 x.1 ∧ fit1 x.2) := by
  refine ⟨hc, fun fuel cs y h => ?_⟩
  obtain ⟨y0, y1, n, _, hl, t0, t1⟩ := trod_struct2 ht h
  obtain ⟨x0, k0, w0⟩ := h0.2 _ _ _ t0
  obtain ⟨x1, k1, w1⟩ := h1.2 _ _ _ t1
  rw [o0, h0.1, List.drop_zero] at k0
  rw [o1, h1.1] at k1
  refine ⟨(x0, x1), ⟨_, _, ?_, k0, k1⟩, w0, w1⟩
  rw [List.take_of_length_le (l := cs.drop d0.sz) (by rw [List.length_drop]; omega), List.take_append_drop]

theorem opens_struct3 {α β γ : Type} {t : TypeId} {f0 f1 f2 : Field} {d0 : Kd α} {d1 : Kd β} {d2 : Kd γ} {fit0 : α → Prop} {fit1 : β → Prop} {fit2 : γ → Prop} (ht : P.underlying t = some (.struct #[f0, f1, f2])) (hc : P.cellsOf t = d0.sz + (d1.sz + d2.sz))
    (o0 : f0.offset = 0) (o1 : f1.offset = d0.sz) (o2 : f2.offset = d0.sz + d1.sz) (h0 : Opens enc P W f0.type d0 fit0) (h1 : Opens enc P W f1.type d1 fit1) (h2 : Opens enc P W f2.type d2 fit2) :
    Opens enc P W t (Kd.pair d0 (Kd.pair d1 d2)) (fun x => fit0 x.1 ∧ fit1 x.2.1 ∧ fit2 x.2.2) := by
  refine ⟨hc, fun fuel cs y h => ?_⟩
  obtain ⟨y0, y1, y2, n, _, hl, t0, t1, t2⟩ := trod_struct3 ht h
  obtain ⟨x0, k0, w0⟩ := h0.2 _ _ _ t0
  obtain ⟨x1, k1, w1⟩ := h1.2 _ _ _ t1
  obtain ⟨x2, k2, w2⟩ := h2.2 _ _ _ t2
  rw [o0, h0.1, List.drop_zero] at k0
  rw [o1, h1.1] at k1
  rw [o2, h2.1] at k2
  refine ⟨(x0, x1, x2), ⟨_, _, ?_, k0, _, _, rfl, k1, k2⟩, w0, w1, w2⟩
  rw [List.take_of_length_le (l := cs.drop (d0.sz + d1.sz)) (by rw [List.length_drop]; omega), ← List.drop_drop, List.take_append_drop, List.take_append_drop]

/-- A Lean structure by its fields. -/
theorem opens_iso {α β : Type} {t : TypeId} {d : Kd α} {fit : α → Prop} (f : β → α) (g : α → β) (hg : ∀ x, f (g x) = x) (h : Opens enc P W t d fit) : Opens enc P W t (Kd.iso d f) (fun y => fit (f y)) :=
  ⟨h.1, fun fuel cs y hy => by
    obtain ⟨x, k, w⟩ := h.2 fuel cs y hy
    exact ⟨g x, by show d.K W (f (g x)) cs; rw [hg]; exact k, by show fit (f (g x)); rw [hg]; exact w⟩⟩

/-- An array of whole numbers. -/
theorem open_arr {t e : TypeId} {k : IntKind} {n : Nat} {fuel : Nat} {cs : List Value} {y : DataW H × List MemPlace} (ht : P.underlying t = some (.array n e)) (he : P.underlying e = some (.int k)) (hc : P.cellsOf e = 1) (hn : P.cellsOf t = n)
    (h : DataW.trod enc P W 0 (fun _ => true) true fuel t cs = some y) : ∃ l : List Int, l.length = n ∧ cs = l.map (Value.int k) ∧ ∀ x ∈ l, (Lit.int k x).wf = true := by
  obtain ⟨xs, m, _, _, hl, hlen, hx⟩ := DataW.trod_array ht h
  have build : ∀ j, j ≤ n → ∃ l : List Int, l.length = j ∧ cs.take j = l.map (Value.int k) ∧ ∀ x ∈ l, (Lit.int k x).wf = true := by
    intro j
    induction j with
    | zero => exact fun _ => ⟨[], rfl, by simp, by simp⟩
    | succ j ih =>
      intro hj
      obtain ⟨l, h1, h2, h3⟩ := ih (by omega)
      have hj' := hx j (by omega)
      rw [hc, Nat.mul_one, List.getElem?_eq_getElem (show j < xs.length by omega)] at hj'
      obtain ⟨a, e0, _, wa⟩ := DataW.trod_int he hj'
      refine ⟨l ++ [a], by simp [h1], ?_, ?_⟩
      · rw [List.map_append, ← h2, List.map_singleton, ← e0, List.take_add]
      · intro x hxm
        rcases List.mem_append.1 hxm with hxm | hxm
        · exact h3 x hxm
        · rw [List.mem_singleton.1 hxm]
          exact wa
  obtain ⟨l, h1, h2, h3⟩ := build n (Nat.le_refl _)
  exact ⟨l, h1, by rw [← h2, List.take_of_length_le (by omega)], h3⟩

theorem okWide_arr {t e : TypeId} {n : Nat} {r : Reach} {b : Nat} {v : Value} (ht : P.underlying t = some (.array n e)) (h : Value.okWide P W r b t v) : ∃ cs, v = .agg cs ∧ cs.size = P.cellsOf t := by
  simp only [Value.okWide, ht] at h
  obtain ⟨cs, h1, h2, _⟩ := h
  exact ⟨cs, h1, h2⟩
theorem list8 {l : List Int} (h : l.length = 8) : ∃ a0 a1 a2 a3 a4 a5 a6 a7, l = [a0, a1, a2, a3, a4, a5, a6, a7] := by
  match l, h with
  | [a0, a1, a2, a3, a4, a5, a6, a7], _ => exact ⟨a0, a1, a2, a3, a4, a5, a6, a7, rfl⟩
end Go.Proofs.YtdgillfbdlmloaaDoor.Open
