/- A contract that the print does not take: the program's convergents of a ratio. -/
import Derived.Test.YtmjfpigkobeahaaRatDel
import Derived.Test.YtmjfpigkobeahaaPx4
import Derived.Test.YtmjfpigkobeahaaPx9
namespace Go.Proofs.Ytmjfpigkobeahaa.P
open Go.RowKit Go.Proofs.YtmjfpigkobeahaaW.PrintWords Go.Proofs.YtmjfpigkobeahaaW.PrintLast Go.Proofs.YtmjfpigkobeahaaW.PrintMore
set_option linter.unusedVariables false
set_option linter.unusedSimpArgs false
/-- At least one, and none behind the first with P = 0. -/
def goodR (l : List SR) : Bool := decide (1 ≤ l.length) && (l.drop 1).all (fun r => !(r.f0 == 0))
def delZ (l : List SR) : List SR := if ((rd_T27 l 0).f0 == 0) = true then l.drop 1 else l
theorem idxZ_none (l : List SR) (h : l.all (fun r => !(r.f0 == 0)) = true) : ∀ i, idxZ l i = -1 := by
  induction l with
  | nil => intro i; rfl
  | cons b l ih =>
    intro i
    rw [List.all_cons, Bool.and_eq_true] at h
    have hb : (b.f0 == 0) = false := by simpa using h.1
    rw [idxZ, hb, if_neg (by decide)]
    exact ih h.2 _
theorem good_idx {l : List SR} (h : goodR l = true) : 1 ≤ l.length ∧ (if ((rd_T27 l 0).f0 == 0) = true then idxZ l 0 = 0 else idxZ l 0 = -1) ∧ ∀ j, 1 ≤ j → j < (l.length : Int) → ((rd_T27 l j).f0 == 0) = false := by
  rw [goodR, Bool.and_eq_true, decide_eq_true_eq] at h
  obtain ⟨h1, h2⟩ := h
  cases l with
  | nil => simp at h1
  | cons p l =>
    rw [List.drop_succ_cons, List.drop_zero] at h2
    refine ⟨h1, ?_, fun j a b => ?_⟩
    · have e : rd_T27 (p :: l) 0 = p := rfl
      rw [e]
      split
      · rename_i c
        rw [idxZ, if_pos c]
      · rename_i c
        rw [idxZ, if_neg c]
        exact idxZ_none l h2 _
    · rw [List.length_cons] at b
      obtain ⟨i, hi⟩ : ∃ i, j.toNat = i + 1 := ⟨j.toNat - 1, by omega⟩
      have hil : i < l.length := by omega
      have e : rd_T27 (p :: l) j = l[i] := by
        unfold rd_T27
        rw [hi, List.getD_cons_succ]
        simp [List.getD, List.getElem?_eq_getElem hil]
      rw [e]
      have := List.all_eq_true.mp h2 _ (List.getElem_mem hil)
      simpa using this
/-- DeleteFunc on a row of one's own that is good. -/
theorem del_calls (v : Value) (l : List SR) (w : World) (base : Nat) (hbw : base ≤ w.heap.size) (hgood : goodR l = true) (hR : Kd.R k27 27 w base (fun _ => True) v l) :
    Calls Try.prog 53 #[v, .func (.func 54) #[] #[]] w fun e w' => ∃ v' : Value, e = .returned v' ∧ Kd.R k27 27 w' base (fun _ => True) v' (delZ l) ∧ Below base w w' := by
  obtain ⟨h1, h2, h3⟩ := good_idx hgood
  have hne : l ≠ [] := by
    rintro rfl
    simp at h1
  obtain ⟨g, cap, rest, rfl, hb, _, hc, hm, hrest, hg⟩ := rowsC_of hR hne
  have hC : Kd.C k27 w (some ⟨g, 0, none⟩) l.length l := (Kd.R_reads' hR).2.2
  unfold delZ
  by_cases c : ((rd_T27 l 0).f0 == 0) = true
  · rw [if_pos c] at h2 ⊢
    refine (del_first g cap l rest w base hb hbw hg hc hm hrest h1 h2 h3).mono ?_
    rintro e w' ⟨rfl, ⟨l1, a1, a2, a3⟩, hbel⟩
    have := rowsC_own (base := base) (n := l.length - 1) a3 hb (by omega) (by omega) hm (by rw [a1]; exact hrest)
    rw [a2] at this
    exact ⟨_, rfl, this, hbel⟩
  · rw [if_neg c] at h2 ⊢
    refine (del_none (some ⟨g, 0, none⟩) cap l w hC hc h2).mono ?_
    rintro e w' ⟨rfl, hbel⟩
    exact ⟨_, rfl, Kd.R_below hR hbel, hbel.mono hbw⟩
def impl_ConvergentsOf.f (k : Nat) (a0_0 : Int) (a0_1 : Int) : Option (List SR × Int) := (impl_ValidRatio.f k a0_0 a0_1).bind fun v => if v = true then ((impl_Ratio_terms.f k a0_0 a0_1).bind fun ts => ((impl_convergents.f ts).bind fun b => if goodR b.1 = true then some (delZ b.1, 0) else none)) else some ([], 1)
theorem impl_ConvergentsOf.mono : ∀ a0 a1 k, LeO (impl_ConvergentsOf.f k a0 a1) (impl_ConvergentsOf.f (k + 1) a0 a1) := by
  intro a0 a1 k
  unfold impl_ConvergentsOf.f
  repeat' first
      | (with_reducible exact impl_ValidRatio.mono _ _ _)
      | (with_reducible exact impl_Ratio_terms.mono _ _ _)
      | (with_reducible exact LeO.refl _)
      | (with_reducible exact LeO.none _)
      | (with_reducible refine LeO.ite ?_ ?_)
      | (with_reducible refine LeO.bind ?_ (fun _ => ?_))
set_option maxHeartbeats 4000000 in
set_option maxRecDepth 100000 in
theorem convOf_no (k : Nat) (p q : Int) (w : World) (hv : impl_ValidRatio.f k p q = some false) :
    Calls Try.prog 22 #[.agg #[.int .i64 p, .int .i64 q]] w fun e w' => e = .returned (.tuple #[.slice none 0 0, .int .i64 1]) ∧ Below w.heap.size w w' := by
  have HV := Aside0.mk hv
  clear hv
  go_enter Try.func22, Try.ntmps22
  go_wp2_with (go_at_call 47; refine (impl_ValidRatio.calls k p q false _ HV.out).mono ?_; rintro e w1 ⟨rfl, hb1⟩; have HB1 := Aside0.mk ((below_alloc (Below.refl w.heap.size w) _).trans (hb1.mono (by simp))); have hbx := blk_below (blk_new w _) hb1; have hx0 := blk_cell hbx 0; have hx1 := blk_cell hbx 1; simp only [List.getElem?_toArray, List.getElem?_cons_zero, List.getElem?_cons_succ] at hx0 hx1; clear hb1 hbx)
  go_ret2
  exact ⟨rfl, HB1.out⟩
set_option maxHeartbeats 8000000 in
set_option maxRecDepth 100000 in
theorem convOf_yes (k : Nat) (p q : Int) (w : World) (ts : List Int) (l : List SR) (ok : Bool) (hv : impl_ValidRatio.f k p q = some true) (ht : impl_Ratio_terms.f k p q = some ts) (hc : impl_convergents.f ts = some (l, ok)) (hgood : goodR l = true) :
    Calls Try.prog 22 #[.agg #[.int .i64 p, .int .i64 q]] w fun e w' => ∃ v : Value, e = .returned (.tuple #[v, .int .i64 0]) ∧ Kd.R k27 27 w' w.heap.size (fun _ => True) v (delZ l) ∧ Below w.heap.size w w' := by
  have HV := Aside0.mk hv
  have HT := Aside0.mk ht
  have HC := Aside0.mk hc
  have HGOOD := Aside0.mk hgood
  clear hv ht hc hgood
  go_enter Try.func22, Try.ntmps22
  go_wp2_with (first | (go_at_call 47; refine (impl_ValidRatio.calls k p q true _ HV.out).mono ?_; rintro e w1 ⟨rfl, hb1⟩; have HB1 := Aside0.mk ((below_alloc (Below.refl w.heap.size w) _).trans (hb1.mono (by simp))); have hbx := blk_below (blk_new w _) hb1; have hx0 := blk_cell hbx 0; have hx1 := blk_cell hbx 1; simp only [List.getElem?_toArray, List.getElem?_cons_zero, List.getElem?_cons_succ] at hx0 hx1; clear hb1 hbx) | (go_at_call 48; refine (impl_Ratio_terms.calls k p q ts _ HT.out).mono ?_; rintro e w2 ⟨v2, rfl, hr2, hb2⟩; have HB2 := Aside0.mk (HB1.out.trans (hb2.mono HB1.out.size)); obtain ⟨A2, c2, rfl, hc2, hC2⟩ := Kd.R_reads hr2; have HC2 := Aside0.mk hc2; have HCC2 := Aside0.mk hC2; clear hr2 hb2 hc2 hC2) | (go_at_call 52; refine (impl_convergents.calls A2 c2 ts l ok _ HCC2.out HC2.out HC.out).mono ?_; rintro e w3 ⟨v3, rfl, hr3, hb3⟩; have HB3 := Aside0.mk (HB2.out.trans (hb3.mono HB2.out.size)); have HR3 := Aside0.mk (Kd.R_lower hr3 HB2.out.size); obtain ⟨A3, c3, rfl⟩ := Kd.R_slice hr3; clear hr3 hb3) | (go_at_call 53; refine (del_calls _ l _ w.heap.size HB3.out.size HGOOD.out HR3.out).mono ?_; rintro e w4 ⟨v4, rfl, hr4, hb4⟩; have HB4 := Aside0.mk (HB3.out.trans hb4); have HR4 := Aside0.mk hr4; clear hr4 hb4))
  go_ret2
  exact ⟨v4, rfl, HR4.out, HB4.out⟩
theorem impl_ConvergentsOf.calls (k : Nat) (a0_0 : Int) (a0_1 : Int) (r1 : List SR) (r2 : Int) (w : World) (h : impl_ConvergentsOf.f k a0_0 a0_1 = some (r1, r2)) :
    Calls Try.prog 22 #[.agg #[.int .i64 a0_0, .int .i64 a0_1]] w fun e w' => ∃ v0_ : Value, e = .returned (.tuple #[v0_, .int .i64 r2]) ∧ Kd.R k27 27 w' w.heap.size (fun _ => True) v0_ r1 ∧ Below w.heap.size w w' := by
  unfold impl_ConvergentsOf.f at h
  replace h := Option.bind_eq_some_iff.mp h
  obtain ⟨v, hv, h⟩ := h
  cases v with
  | false =>
    rw [if_neg (by decide)] at h
    injection h with h
    obtain ⟨rfl, rfl⟩ := Prod.mk.inj h
    refine (convOf_no k a0_0 a0_1 w hv).mono ?_
    rintro e w' ⟨rfl, hb⟩
    exact ⟨_, rfl, Kd.R_nil _ _ _ _ _, hb⟩
  | true =>
    rw [if_pos rfl] at h
    replace h := Option.bind_eq_some_iff.mp h
    obtain ⟨ts, ht, h⟩ := h
    replace h := Option.bind_eq_some_iff.mp h
    obtain ⟨⟨l, ok⟩, hc, h⟩ := h
    split at h
    · rename_i hg
      injection h with h
      obtain ⟨rfl, rfl⟩ := Prod.mk.inj h
      exact convOf_yes k a0_0 a0_1 w ts l ok hv ht hc hg
    · cases h
end Go.Proofs.Ytmjfpigkobeahaa.P
