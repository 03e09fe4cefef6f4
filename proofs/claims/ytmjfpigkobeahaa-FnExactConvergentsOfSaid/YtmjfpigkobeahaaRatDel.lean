/- Contracts that the print does not take: slices.IndexFunc and slices.DeleteFunc over ratios, with the test that P is 0. -/
import Derived.Test.YtmjfpigkobeahaaConvA
import Derived.Laws.CopyOwn
import Derived.Lib.SliceRun
namespace Go.Proofs.Ytmjfpigkobeahaa.P
open Go.RowKit Go.Proofs.YtmjfpigkobeahaaW.PrintWords Go.Proofs.YtmjfpigkobeahaaW.PrintLast Go.Proofs.YtmjfpigkobeahaaW.PrintMore
set_option linter.unusedVariables false
set_option linter.unusedSimpArgs false
abbrev SR := S27
set_option maxHeartbeats 2000000 in
theorem isZ_calls (a b : Int) (w : World) : Calls Try.prog 54 #[.agg #[.int .i64 a, .int .i64 b]] w fun e w' => e = .returned (.bool (a == 0)) ∧ Below w.heap.size w w' := by
  go_enter Try.func54, Try.ntmps54
  go_wp2
  go_ret
  exact ⟨rfl, by repeat (first | exact Below.refl _ _ | apply below_alloc | apply pw_below_drewN)⟩
/-- Where the first ratio with P = 0 stands, from i on. -/
def idxZ : List SR → Int → Int
  | [], _ => -1
  | b :: bs, i => if (b.f0 == 0) = true then i else idxZ bs (i + 1)
theorem drop_rdR (l : List SR) (x : Int) (h0 : 0 ≤ x) (h1 : x < (l.length : Int)) : l.drop x.toNat = rd_T27 l x :: l.drop (x + 1).toNat := by
  have e : (x + 1).toNat = x.toNat + 1 := by omega
  rw [e, List.drop_eq_getElem_cons (show x.toNat < l.length by omega)]
  simp [rd_T27, List.getD, List.getElem?_eq_getElem (show x.toNat < l.length by omega)]
set_option maxHeartbeats 4000000 in
set_option maxRecDepth 100000 in
theorem idxZ_calls (A0 : Option Addr) (c0 : Nat) (l0 : List SR) (w : World) (hr0 : Kd.C k27 w A0 l0.length l0) (hc0 : l0.length ≤ c0) :
    Calls Try.prog 78 #[.slice A0 l0.length c0, .func (.func 54) #[] #[]] w fun e w' => e = .returned (.int .i64 (idxZ l0 0)) ∧ Below w.heap.size w w' := by
  have hlen : (l0.length : Int) ≤ 9223372036854775807 := by have := hr0.2.1; omega
  have HL := Aside0.mk hlen
  have HR0 := Aside0.mk hr0
  have HC0 := Aside0.mk hc0
  clear hr0 hc0 hlen
  go_enter Try.func78, Try.ntmps78
  go_wp2
  go_loopg [8] l0.length (fun kq v8 w' => ∃ x : Int, v8 = .int .i64 x ∧ Aside0 (0 ≤ x ∧ x + kq = l0.length ∧ idxZ (l0.drop x.toNat) x = idxZ l0 0) ∧ Aside0 (Below w.heap.size w w'))
  case atStart => exact ⟨0, rfl, ⟨by omega, by omega, by simp⟩, ⟨Below.refl _ _⟩⟩
  case round =>
    obtain ⟨x, rfl, HX, HW⟩ := hrel
    cases gk with
    | zero =>
      have hx := HX.out
      have hd : l0.drop x.toNat = [] := List.drop_eq_nil_of_le (by omega)
      have hres : idxZ l0 0 = -1 := by rw [← hx.2.2, hd]; rfl
      have Hres := Aside0.mk hres
      have hb : decide (x < (l0.length : Int)) = false := decide_eq_false (by omega)
      clear hx hd hres
      go_wp2
      go_ret
      exact ⟨by (rw [Hres.out]; first | done | rfl), HW.out⟩
    | succ k1 =>
      have hx := HX.out
      have p1 : 0 ≤ x := hx.1
      have q1 : x < (l0.length : Int) := by omega
      have hd := drop_rdR l0 x p1 q1
      have hb : decide (x < (l0.length : Int)) = true := decide_eq_true q1
      obtain ⟨ad, e, hcell0, hcell1⟩ := at_T27 (Kd.C_below HR0.out HW.out) x p1 q1
      cases e
      have hw : wrap64 (x + 1) = x + 1 := Go.IntWalk.wrap64_in _ (by have := HL.out; omega)
      by_cases hbad : ((rd_T27 l0 x).f0 == 0) = true
      · have hres : idxZ l0 0 = x := by rw [← hx.2.2, hd]; simp only [idxZ, hbad, if_true]
        have Hres := Aside0.mk hres
        have HB := Aside0.mk hbad
        clear hx hd hres hw hbad HX
        replace p1 := eq_true p1
        replace q1 := eq_true q1
        go_wp2_with (go_at_call 54; refine (isZ_calls _ _ _).mono ?_; rw [HB.out]; rintro e w' ⟨rfl, hbel⟩; have HBEL := Aside0.mk hbel; clear hbel)
        go_ret
        exact ⟨by (rw [Hres.out]; first | done | rfl), HW.out.trans (HBEL.out.mono HW.out.size)⟩
      · have hbad' : ((rd_T27 l0 x).f0 == 0) = false := Bool.eq_false_iff.mpr hbad
        have hnext : idxZ (l0.drop (x + 1).toNat) (x + 1) = idxZ l0 0 := by rw [← hx.2.2, hd]; simp only [idxZ, hbad', Bool.false_eq_true, if_false]
        have HN := Aside0.mk (show 0 ≤ wrap64 (x + 1) ∧ wrap64 (x + 1) + k1 = l0.length ∧ idxZ (l0.drop (wrap64 (x + 1)).toNat) (wrap64 (x + 1)) = idxZ l0 0 by rw [hw]; exact ⟨by omega, by omega, hnext⟩)
        have HB := Aside0.mk hbad'
        clear hx hd hw hbad hbad' HX hnext
        replace p1 := eq_true p1
        replace q1 := eq_true q1
        go_wp2_with (go_at_call 54; refine (isZ_calls _ _ _).mono ?_; rw [HB.out]; rintro e w' ⟨rfl, hbel⟩; have HBEL := Aside0.mk hbel; clear hbel)
        go_roundg k1
        case measure => omega
        case rel => exact ⟨wrap64 (x + 1), rfl, HN, ⟨HW.out.trans (HBEL.out.mono HW.out.size)⟩⟩
/-! ### A row as a block -/
def flatR (l : List SR) : List Value := l.flatMap fun x => [Value.int .i64 x.f0, Value.int .i64 x.f1]
theorem flatR_cons (p : SR) (l : List SR) : flatR (p :: l) = Value.int .i64 p.f0 :: Value.int .i64 p.f1 :: flatR l := rfl
theorem flatR_len (l : List SR) : (flatR l).length = l.length * 2 := by
  induction l with
  | nil => rfl
  | cons p l ih => rw [flatR_cons, List.length_cons, List.length_cons, ih, List.length_cons]; omega
def rowsC (l : List SR) (rest : List Value) : Array Value := (flatR l ++ rest).toArray
theorem flatR_get (l : List SR) (rest : List Value) : ∀ j : Nat, j < l.length → (flatR l ++ rest)[j * 2]? = some (.int .i64 (l.getD j z27).f0) ∧ (flatR l ++ rest)[j * 2 + 1]? = some (.int .i64 (l.getD j z27).f1) := by
  induction l with
  | nil => intro j h; simp at h
  | cons p l ih =>
    intro j h
    cases j with
    | zero => exact ⟨rfl, rfl⟩
    | succ j =>
      obtain ⟨a, b⟩ := ih j (by simpa using h)
      rw [show (j + 1) * 2 = j * 2 + 1 + 1 by omega]
      exact ⟨a, b⟩
theorem flatR_set (l : List SR) (rest : List Value) : ∀ (j : Nat) (p q : Int), j < l.length → ((flatR l ++ rest).set (j * 2) (.int .i64 p)).set (j * 2 + 1) (.int .i64 q) = flatR (l.set j ⟨p, q⟩) ++ rest := by
  induction l with
  | nil => intro j p q h; simp at h
  | cons r l ih =>
    intro j p q h
    cases j with
    | zero => rfl
    | succ j =>
      have := ih j p q (by simpa using h)
      rw [show (j + 1) * 2 = j * 2 + 1 + 1 by omega]
      simp only [flatR_cons, List.cons_append, List.set_cons_succ, this]
theorem add0 (g n : Nat) : (⟨g, 0, none⟩ : Addr).add n = ⟨g, n, none⟩ := by
  unfold Addr.add
  split
  · rename_i h0
    rw [h0]
  · simp
theorem rowsC_cell {w : World} {g : Nat} {l : List SR} {rest : List Value} {t : TypeId} (h : w.heap[g]? = some (.cells (rowsC l rest) t (0, 0))) (x : Int) (h0 : 0 ≤ x) (h1 : x < (l.length : Int)) :
    w.cell? ⟨g, x.toNat * 2, none⟩ = some (.int .i64 (rd_T27 l x).f0) ∧ w.cell? ⟨g, x.toNat * 2 + 1, none⟩ = some (.int .i64 (rd_T27 l x).f1) := by
  obtain ⟨a, b⟩ := flatR_get l rest x.toNat (by omega)
  exact ⟨(blk_cell h _).trans (by unfold rowsC; rw [List.getElem?_toArray]; exact a), (blk_cell h _).trans (by unfold rowsC; rw [List.getElem?_toArray]; exact b)⟩
theorem rowsC_set {w : World} {g : Nat} {l : List SR} {rest : List Value} {t : TypeId} (h : w.heap[g]? = some (.cells (rowsC l rest) t (0, 0))) (j : Nat) (p q : Int) (hj : j < l.length) :
    ((w.setCell ⟨g, j * 2, none⟩ (.int .i64 p)).setCell ⟨g, j * 2 + 1, none⟩ (.int .i64 q)).heap[g]? = some (.cells (rowsC (l.set j ⟨p, q⟩) rest) t (0, 0)) := by
  refine blk_put (blk_put h _ (.int .i64 p) rfl) _ (.int .i64 q) ?_
  unfold rowsC
  rw [List.setIfInBounds_toArray, List.setIfInBounds_toArray, flatR_set l rest j p q hj]
/-- A row of one's own as a block, and back. -/
theorem rowsC_of {w : World} {base : Nat} {ok : Nat → Prop} {v : Value} {l : List SR} (h : Kd.R k27 27 w base ok v l) (hn : l ≠ []) : ∃ g cap rest, v = .slice (some ⟨g, 0, none⟩) l.length cap ∧ base ≤ g ∧ ok g ∧ l.length ≤ cap ∧ cap ≤ maxLen ∧ rest.length = cap * 2 - l.length * 2 ∧ w.heap[g]? = some (.cells (rowsC l rest) 27 (0, 0)) := by
  obtain ⟨h0, inner, ⟨h1, h2⟩, hr⟩ := h
  rcases h2 with ⟨_, h2⟩ | ⟨g, cap, cur, rfl, hb, hg, hc, hm, hsz, ht⟩
  · exact absurd (List.eq_nil_of_length_eq_zero h2) hn
  · have hin : inner = flatR l := by
      have hsz2 : k27.sz = 2 := rfl
      have gen : ∀ (l : List SR) (cs : List Value) (R : SR → List Value → Prop), (∀ p c, R p c → c = [.int .i64 p.f0, .int .i64 p.f1]) → Reps R 2 l cs → cs = flatR l := by
        intro l
        induction l with
        | nil => intro cs R _ hh; exact List.eq_nil_of_length_eq_zero (by simpa using hh.1)
        | cons p l ih =>
          intro cs R hR hh
          have e0 := hR _ _ (hh.2 0 p rfl)
          have hl : cs.length = (l.length + 1) * 2 := hh.1
          have e1 := ih (cs.drop 2) R hR ⟨by rw [List.length_drop, hl]; omega, fun j q hj => by
            have := hh.2 (j + 1) q hj
            rw [List.drop_drop, show 2 + j * 2 = (j + 1) * 2 by omega]
            exact this⟩
          rw [← List.take_append_drop 2 cs, e1, flatR_cons]
          have e2 : cs.take 2 = [.int .i64 p.f0, .int .i64 p.f1] := by simpa using e0
          rw [e2]
          rfl
      exact gen l inner _ (fun p c hc => k27_openM hc) hr
    refine ⟨g, cap, cur.toList.drop (l.length * 2), rfl, hb, h0 g (by simp [Value.ownBlock]), hc, hm, ?_, ?_⟩
    · rw [List.length_drop, Array.length_toList, hsz]
      rfl
    · rw [hg]
      congr 2
      unfold rowsC
      rw [← hin, ← ht]
      show cur = (List.take (l.length * 2) cur.toList ++ List.drop (l.length * 2) cur.toList).toArray
      rw [List.take_append_drop]
theorem rowsC_own {w : World} {base g n cap : Nat} {l : List SR} {rest : List Value} (h : w.heap[g]? = some (.cells (rowsC l rest) 27 (0, 0))) (hb : base ≤ g) (hn : n ≤ l.length) (hc : l.length ≤ cap) (hm : cap ≤ maxLen) (hrest : rest.length = cap * 2 - l.length * 2) :
    Kd.R k27 27 w base (fun _ => True) (.slice (some ⟨g, 0, none⟩) n cap) (l.take n) := by
  have hlen : (l.take n).length = n := by rw [List.length_take]; omega
  have htk : (flatR l ++ rest).take (n * 2) = flatR (l.take n) := by
    have e : flatR l = flatR (l.take n) ++ flatR (l.drop n) := by
      have : flatR (l.take n ++ l.drop n) = flatR (l.take n) ++ flatR (l.drop n) := List.flatMap_append
      rw [← this, List.take_append_drop]
    rw [e, List.append_assoc]
    exact List.take_left' (by rw [flatR_len, hlen])
  have reps : ∀ l : List SR, Reps (k27.M w base (fun k => True ∧ some k ≠ Value.ownBlock (.slice (some ⟨g, 0, none⟩) n cap))) 2 l (flatR l) := by
    intro l
    refine ⟨flatR_len l, fun j p hj => ?_⟩
    have hjl := (List.getElem?_eq_some_iff.1 hj).1
    obtain ⟨a, b⟩ := flatR_get l [] j hjl
    rw [List.append_nil] at a b
    have e : ((flatR l).drop (j * 2)).take 2 = [.int .i64 p.f0, .int .i64 p.f1] := by
      have hp : l.getD j z27 = p := by simp [List.getD, hj]
      rw [hp] at a b
      apply List.ext_getElem?
      intro i
      rcases i with _ | _ | i
      · simpa [List.getElem?_take, List.getElem?_drop] using a
      · simpa [List.getElem?_take, List.getElem?_drop] using b
      · rw [List.getElem?_take, if_neg (by omega)]
        rfl
    rw [e]
    exact k27_mkM _ _ _ p
  refine ⟨fun _ _ => trivial, flatR (l.take n), ⟨by rw [flatR_len]; rfl, .inr ⟨g, cap, rowsC l rest, by rw [hlen], hb, h, by omega, hm, ?_, ?_⟩⟩, reps _⟩
  · unfold rowsC
    show (flatR l ++ rest).length = cap * 2
    rw [List.length_append, flatR_len, hrest]
    omega
  · rw [hlen]
    exact htk
theorem shift_len (l : List SR) (i : Nat) (h : i + 1 ≤ l.length) : ((l.drop 1).take i).length = i := by rw [List.length_take, List.length_drop]; omega
theorem shift_get (l : List SR) (i : Nat) (z : SR) (h : i + 1 < l.length) : ((l.drop 1).take i ++ l.drop i).getD (i + 1) z = l.getD (i + 1) z := by
  rw [List.getD_eq_getElem?_getD, List.getD_eq_getElem?_getD, List.getElem?_append_right (by rw [shift_len l i (by omega)]; omega), shift_len l i (by omega), List.getElem?_drop]
  congr 2
  omega
theorem shift_next (l : List SR) (i : Nat) (z : SR) (h : i + 1 < l.length) : ((l.drop 1).take i ++ l.drop i).set i (l.getD (i + 1) z) = (l.drop 1).take (i + 1) ++ l.drop (i + 1) := by
  have e : (l.drop 1).take (i + 1) = (l.drop 1).take i ++ [l.getD (i + 1) z] := by
    rw [List.take_succ_eq_append_getElem (by rw [List.length_drop]; omega), List.getElem_drop]
    congr 2
    rw [List.getD_eq_getElem?_getD, List.getElem?_eq_getElem h]
    simp [Nat.add_comm]
  rw [List.set_append_right _ _ (by rw [shift_len l i (by omega)]; omega), shift_len l i (by omega), Nat.sub_self, List.drop_eq_getElem_cons (show i < l.length by omega), List.set_cons_zero, e, List.append_assoc]
  rfl
/-! ### DeleteFunc -/
set_option maxHeartbeats 4000000 in
set_option maxRecDepth 100000 in
theorem del_none (A0 : Option Addr) (c0 : Nat) (l0 : List SR) (w : World) (hr0 : Kd.C k27 w A0 l0.length l0) (hc0 : l0.length ≤ c0) (hz : idxZ l0 0 = -1) :
    Calls Try.prog 53 #[.slice A0 l0.length c0, .func (.func 54) #[] #[]] w fun e w' => e = .returned (.slice A0 l0.length c0) ∧ Below w.heap.size w w' := by
  have HR0 := Aside0.mk hr0
  have HC0 := Aside0.mk hc0
  have HZ := Aside0.mk hz
  clear hr0 hc0 hz
  go_enter Try.func53, Try.ntmps53
  go_wp2_with (go_at_call 78; refine (idxZ_calls A0 c0 l0 _ HR0.out HC0.out).mono ?_; rw [HZ.out]; rintro e w1 ⟨rfl, hb1⟩; have HB1 := Aside0.mk hb1; clear hb1)
  go_ret
  exact ⟨rfl, HB1.out⟩
theorem run_clear_one (w : World) (ty : TypeId) (g o c n : Nat) (hn : n = 1) (u0 u1 : Value) (h0 : w.cell? ⟨g, o, none⟩ = some u0) (h1 : w.cell? ⟨g, o + 1, none⟩ = some u1) (f0 : w.frozen? ⟨g, o, none⟩ = false) (f1 : w.frozen? ⟨g, o + 1, none⟩ = false) :
    (Builtin.clear_ #[37] ty #[.slice (some ⟨g, o, none⟩) n c]).run Try.prog w = .ok (.tuple #[]) ((w.setCell ⟨g, o, none⟩ (.int .i64 0)).setCell ⟨g, o + 1, none⟩ (.int .i64 0)) := by
  subst hn
  have hzc : (Builtin.zeroCells (Value.agg #[.int .i64 0, .int .i64 0]).cells 1).toList = [.int .i64 0, .int .i64 0] := by kernel_rfl
  have hst := run_storeCells_cells (P := Try.prog) g o [.int .i64 0, .int .i64 0] 0 w (fun j hj => by
    rcases j with _ | _ | j
    · simp [h0]
    · simp [h1]
    · simp at hj
      omega) (fun j hj => by
    rcases j with _ | _ | j
    · simpa using f0
    · simpa using f1
    · simp at hj
      omega) (by intro v hv; simp at hv; subst hv; rfl)
  simp only [Nat.add_zero] at hst
  simp [Builtin.clear_, run_underlying Try.underlying37, Try.zeroValue27, hzc, hst, World.setCells]
set_option maxHeartbeats 8000000 in
set_option maxRecDepth 100000 in
theorem del_first (g cap : Nat) (l0 : List SR) (rest : List Value) (w : World) (base : Nat) (hb : base ≤ g) (hbw : base ≤ w.heap.size) (hg : w.heap[g]? = some (.cells (rowsC l0 rest) 27 (0, 0))) (hcap : l0.length ≤ cap) (hm : cap ≤ maxLen) (hrest : rest.length = cap * 2 - l0.length * 2)
    (hn : 1 ≤ l0.length) (hz : idxZ l0 0 = 0) (hnz : ∀ j, 1 ≤ j → j < (l0.length : Int) → ((rd_T27 l0 j).f0 == 0) = false) :
    Calls Try.prog 53 #[.slice (some ⟨g, 0, none⟩) l0.length cap, .func (.func 54) #[] #[]] w fun e w' => e = .returned (.slice (some ⟨g, 0, none⟩) (l0.length - 1) cap) ∧ (∃ l1 : List SR, l1.length = l0.length ∧ l1.take (l0.length - 1) = l0.drop 1 ∧ w'.heap[g]? = some (.cells (rowsC l1 rest) 27 (0, 0))) ∧ Below base w w' := by
  have hC : Kd.C k27 w (some ⟨g, 0, none⟩) l0.length l0 := by
    have := (Kd.R_reads' (rowsC_own hg hb (Nat.le_refl _) hcap hm hrest)).2.2
    rw [List.take_length] at this
    exact this
  have HR0 := Aside0.mk hC
  have HC0 := Aside0.mk hcap
  have HZ := Aside0.mk hz
  have HNZ := Aside0.mk hnz
  have HG := Aside0.mk hg
  have HN := Aside0.mk hn
  have HREST := Aside0.mk hrest
  have HBASE := Aside0.mk (And.intro hb hbw)
  clear hC hcap hz hnz hg hn hrest hb hbw
  go_enter Try.func53, Try.ntmps53
  go_wp2_with (go_at_call 78; refine (idxZ_calls _ cap l0 _ HR0.out HC0.out).mono ?_; rw [HZ.out]; rintro e w1 ⟨rfl, hb1⟩; have HG1 := Aside0.mk (blk_below HG.out hb1); have HB1 := Aside0.mk (hb1.mono HBASE.out.2); clear hb1)
  go_loopg [5, 6] (l0.length - 1) (fun kq v5 v6 w' => ∃ (x y : Int) (ys : List SR), v5 = .int .i64 x ∧ v6 = .int .i64 y ∧ Aside0 (0 ≤ x ∧ y = x + 1 ∧ y + kq = l0.length ∧ ys = (l0.drop 1).take x.toNat ++ l0.drop x.toNat) ∧ Aside0 (w'.heap[g]? = some (.cells (rowsC ys rest) 27 (0, 0))) ∧ Aside0 (Below base w w'))
  case atStart => exact ⟨0, 1, l0, rfl, rfl, ⟨by omega, by omega, by have := HN.out; omega, by simp⟩, HG1, HB1⟩
  case round =>
    clear HG1 HB1
    obtain ⟨x, y, ys, rfl, rfl, HX, H, HW⟩ := hrel
    have hx0 := HX.out
    have hys : ys.length = l0.length := by
      rw [hx0.2.2.2, List.length_append, List.length_take, List.length_drop, List.length_drop]
      omega
    have HYS := Aside0.mk hys
    cases gk with
    | zero =>
      have hb : decide (y < (l0.length : Int)) = false := decide_eq_false (by omega)
      have p0 : 0 ≤ x := hx0.1
      have q0 : x ≤ (l0.length : Int) := by omega
      have hne : ¬ cap = x.toNat := by have := HC0.out; omega
      have r0 : x ≤ (cap : Int) := by have := HC0.out; omega
      obtain ⟨cx0, cx1⟩ := rowsC_cell H.out x p0 (by omega)
      have hcl := run_clear_one wr 0 g (x.toNat * 2) (cap - x.toNat) (l0.length - x.toNat) (by omega) _ _ cx0 cx1 (blk_frozen H.out _) (blk_frozen H.out _)
      clear hx0 hys cx0 cx1
      replace p0 := eq_true p0
      replace q0 := eq_true q0
      replace r0 := eq_true r0
      go_wp2
      go_ret
      have hx := HX.out
      have hl := HYS.out
      refine ⟨?_, ⟨ys.set x.toNat ⟨0, 0⟩, by rw [List.length_set]; exact hl, ?_, rowsC_set H.out x.toNat 0 0 (by omega)⟩, (HW.out.setCell (p := ⟨g, x.toNat * 2, none⟩) HBASE.out.1 _).setCell (p := ⟨g, x.toNat * 2 + 1, none⟩) HBASE.out.1 _⟩
      · show Ending.returned (.slice (some ⟨g, 0, none⟩) x.toNat cap) = _
        rw [show x.toNat = l0.length - 1 by omega]
      · rw [show l0.length - 1 = x.toNat by omega, List.take_set_of_le (Nat.le_refl _), hx.2.2.2, List.take_left' (by rw [List.length_take, List.length_drop]; omega), List.take_of_length_le (by rw [List.length_drop]; omega)]
    | succ k1 =>
      have p0 : 0 ≤ x := hx0.1
      have q0 : x < (l0.length : Int) := by omega
      have p1 : 0 ≤ y := by omega
      have q1 : y < (l0.length : Int) := by omega
      have hb : decide (y < (l0.length : Int)) = true := decide_eq_true q1
      have hry : rd_T27 ys y = rd_T27 l0 y := by
        have := shift_get l0 x.toNat z27 (by omega)
        unfold rd_T27
        rw [hx0.2.2.2, show y.toNat = x.toNat + 1 by omega]
        exact this
      have hnz := HNZ.out y (by omega) q1
      rw [← hry] at hnz
      have HNZ1 := Aside0.mk hnz
      obtain ⟨cy0, cy1⟩ := rowsC_cell H.out y p1 (by omega)
      obtain ⟨dy0, dy1⟩ := rowsC_cell (blk_alloc H.out (.cells #[.int .i64 0, .int .i64 0] 27)) y p1 (by omega)
      have hw1 : wrap64 (x + 1) = x + 1 := Go.IntWalk.wrap64_in _ (by have := HC0.out; unfold maxLen at hm; omega)
      have hw2 : wrap64 (y + 1) = y + 1 := Go.IntWalk.wrap64_in _ (by have := HC0.out; unfold maxLen at hm; omega)
      have HN2 := Aside0.mk (show 0 ≤ wrap64 (x + 1) ∧ wrap64 (y + 1) = wrap64 (x + 1) + 1 ∧ wrap64 (y + 1) + k1 = l0.length ∧ ys.set x.toNat ⟨(rd_T27 ys y).f0, (rd_T27 ys y).f1⟩ = (l0.drop 1).take (wrap64 (x + 1)).toNat ++ l0.drop (wrap64 (x + 1)).toNat by
        rw [hw1, hw2, show (x + 1).toNat = x.toNat + 1 by omega]
        refine ⟨by omega, by omega, by omega, ?_⟩
        rw [← shift_next l0 x.toNat z27 (by omega), hry, hx0.2.2.2]
        unfold rd_T27
        rw [show y.toNat = x.toNat + 1 by omega])
      have HSZ := Aside0.mk (show base ≤ wr.heap.size from Nat.le_trans HBASE.out.2 HW.out.size)
      clear hx0 hys hry hnz hw1 hw2
      replace p0 := eq_true p0
      replace q0 := eq_true q0
      replace p1 := eq_true p1
      replace q1 := eq_true q1
      go_wp2_with (first | (go_at_call 54; refine (isZ_calls _ _ _).mono ?_; rw [HNZ1.out]; rintro e w3 ⟨rfl, hb3⟩; have H3 := Aside0.mk (blk_below (blk_alloc H.out _) hb3); have hbx := blk_below (blk_new _ _) hb3; have hb0 := blk_cell hbx 0; have hb1 := blk_cell hbx 1; obtain ⟨cx0, cx1⟩ := rowsC_cell H3.out x (of_eq_true p0) (by have := HYS.out; have := of_eq_true q0; omega); have fx0 := blk_frozen H3.out; clear hbx; have HB3 := Aside0.mk hb3; clear hb3))
      go_roundg k1
      case measure => omega
      case rel => exact ⟨_, _, _, rfl, rfl, HN2, ⟨rowsC_set H3.out x.toNat _ _ (by have := HYS.out; have := of_eq_true q0; have := of_eq_true p0; omega)⟩, ⟨(((HW.out.alloc HSZ.out _).trans (HB3.out.mono (by have := HSZ.out; simp; omega))).setCell (p := ⟨g, x.toNat * 2, none⟩) HBASE.out.1 _).setCell (p := ⟨g, x.toNat * 2 + 1, none⟩) HBASE.out.1 _⟩⟩
end Go.Proofs.Ytmjfpigkobeahaa.P
