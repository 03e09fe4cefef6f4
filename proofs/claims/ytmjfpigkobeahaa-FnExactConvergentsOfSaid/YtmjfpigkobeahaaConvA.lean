/- A contract that the print does not take: the program's convergents. -/
import Derived.Test.YtmjfpigkobeahaaPx0
import Derived.IntWalk
import Derived.BigRegion
namespace Go.Proofs.Ytmjfpigkobeahaa.P
open Go.RowKit Go.Proofs.YtmjfpigkobeahaaW.PrintWords Go.Proofs.YtmjfpigkobeahaaW.PrintLast Go.Proofs.YtmjfpigkobeahaaW.PrintMore
set_option linter.unusedVariables false
set_option linter.unusedSimpArgs false
/-- One convergent after the other; lp / lq is the last one, bp / bq the one before. -/
def impl_convergents.go : List Int → List S27 → Int → Int → Int → Int → Option (List S27 × Bool)
  | [], out, _, _, _, _ => some (out, true)
  | a :: t, out, lp, lq, bp, bq => if wrap64 (wrap64 (a * lp) + bp) > 1000000000 then some ([], false) else if wrap64 (wrap64 (a * lq) + bq) > 1000000000 then some ([], false) else if out.length < 8796093022208 then impl_convergents.go t (out ++ [⟨wrap64 (wrap64 (a * lp) + bp), wrap64 (wrap64 (a * lq) + bq)⟩]) (wrap64 (wrap64 (a * lp) + bp)) (wrap64 (wrap64 (a * lq) + bq)) lp lq else none
def impl_convergents.f (l0 : List Int) : Option (List S27 × Bool) := impl_convergents.go l0 [] 1 0 0 1
theorem drop_rdV (l : List Int) (x : Int) (h0 : 0 ≤ x) (h1 : x < (l.length : Int)) : l.drop x.toNat = rd l x :: l.drop (x + 1).toNat := by
  have e : (x + 1).toNat = x.toNat + 1 := by omega
  rw [e, List.drop_eq_getElem_cons (show x.toNat < l.length by omega)]
  simp [rd, List.getD, List.getElem?_eq_getElem (show x.toNat < l.length by omega)]
set_option maxHeartbeats 8000000 in
set_option maxRecDepth 100000 in
/-- The region that moves the last two on. -/
theorem conv_start (w : World) (A0 : Option Addr) (c0 : Nat) (l0 : List Int) (hr0 : Kd.C (Kd.int .i64) w A0 l0.length l0) (hc0 : l0.length ≤ c0) (r1 : List S27) (r2 : Bool) (h : impl_convergents.f l0 = some (r1, r2)) :
    Calls Try.prog 52 #[.slice A0 l0.length c0] w fun e w' => ∃ v0_ : Value, e = .returned (.tuple #[v0_, .bool r2]) ∧ Kd.R k27 27 w' w.heap.size (fun _ => True) v0_ r1 ∧ Below w.heap.size w w' := by
  have hu27 := Try.underlying27
  have hlen : (l0.length : Int) ≤ 9223372036854775807 := by have := hr0.2.1; omega
  have HL := Aside0.mk hlen
  have HR0 := Aside0.mk hr0
  have HC0 := Aside0.mk hc0
  clear hr0 hc0 hlen
  have HB := Aside0.mk (Below.refl w.heap.size w)
  have H' := Aside0.mk h
  clear h
  go_enter Try.func52, Try.ntmps52
  go_wp2_with (first | ((with_reducible refine gate_dst (N := 9) rfl ?_); refine Kd.R_lit k27 _ 27 ?hg (N := 9) ?hd (xs := ([] : List (S27))) (inner := []) (ok := fun _ => True) (okp := fun _ => True) ?hr ?hp (fun _ hk => hk) trivial (Below.refl _ _) (Nat.le_refl _) (by simp) ?_; (case hd => rfl); (case hg => rfl); (case hr => first | (go_simp; done) | (go_simp; rfl)); (case hp => exact (Reps.none _ _)); intro v169 w2 ho3 hb hg_ hnew_; clear hg_ hnew_; have n0_ := Aside0.mk (Kd.R_lower ho3 (below_size (by repeat (first | (with_reducible first | exact HB.out | apply below_alloc | apply pw_below_drewN | apply below_drew1) | exact HB.out)))); have n1_ := Aside0.mk (below_step (by repeat (first | (with_reducible first | exact HB.out | apply below_alloc | apply pw_below_drewN | apply below_drew1) | exact HB.out)) hb); clear HB; have HO170 := n0_; have HB := n1_; clear n0_ n1_; clear hb ho3) | ((with_reducible refine gate_dst (N := 5) rfl ?_); refine box_event ?hg (N := 5) ?hd (cs := #[.int .i64 0, .int .i64 0]) (t := 27) ?hr ?_; (case hd => rfl); (case hg => rfl); (case hr => first | (go_simp; done) | (go_simp; rfl)); intro g5 hg w4 hbox hb; have n0_ := Aside0.mk (Kd.R_below (Kd.R_elderB HO170.out g5 (Nat.le_of_eq hg.symm)) hb); have n1_ := Aside0.mk (below_step HB.out hb); have n2_ := Aside0.mk (hbox); have n3_ := Aside0.mk ((by rw [hg]; exact (below_size HB.out)) : w.heap.size ≤ g5); clear HO170; clear HB; have HO170 := n0_; have HB := n1_; have BK5 := n2_; have GE5 := n3_; clear n0_ n1_ n2_ n3_; clear hb hbox hg) | ((with_reducible refine gate_dst (N := 6) rfl ?_); refine box_event ?hg (N := 6) ?hd (cs := #[.int .i64 0, .int .i64 0]) (t := 27) ?hr ?_; (case hd => rfl); (case hg => rfl); (case hr => first | (go_simp; done) | (go_simp; rfl)); intro g6 hg w6 hbox hb; have n0_ := Aside0.mk (Kd.R_below (Kd.R_elderB HO170.out g6 (Nat.le_of_eq hg.symm)) hb); have n1_ := Aside0.mk (blk_below BK5.out hb); have n2_ := Aside0.mk (below_step HB.out hb); have n3_ := Aside0.mk (hbox); have n4_ := Aside0.mk ((by rw [hg]; exact (below_size HB.out)) : w.heap.size ≤ g6); have n5_ := Aside0.mk ((by rw [hg]; exact Nat.ne_of_lt (blk_lt BK5.out)) : g5 ≠ g6); clear HO170; clear BK5; clear HB; have HO170 := n0_; have BK5 := n1_; have HB := n2_; have BK6 := n3_; have GE6 := n4_; have NB56 := n5_; clear n0_ n1_ n2_ n3_ n4_ n5_; clear hb hbox hg; have hne := NB56.out; have hne' := (Ne.symm NB56.out); have hcz5_0 : w6.cell? ⟨g5, 0, none⟩ = some (.int .i64 0) := (blk_cell BK5.out 0).trans rfl; have hcz5_1 : w6.cell? ⟨g5, 1, none⟩ = some (.int .i64 0) := (blk_cell BK5.out 1).trans rfl; have hfz5_0 := blk_frozen BK5.out 0; have hfz5_1 := blk_frozen BK5.out 1; have hcz8_0 : w6.cell? ⟨g6, 0, none⟩ = some (.int .i64 0) := (blk_cell BK6.out 0).trans rfl; have hcz8_1 : w6.cell? ⟨g6, 1, none⟩ = some (.int .i64 0) := (blk_cell BK6.out 1).trans rfl; have hfz8_0 := blk_frozen BK6.out 0; have hfz8_1 := blk_frozen BK6.out 1))
  have K5 := Aside0.mk (show ((((w6.setCell ⟨g5, 0, none⟩ (.int .i64 0)).setCell ⟨g5, 1, none⟩ (.int .i64 1)).setCell ⟨g6, 0, none⟩ (.int .i64 1)).setCell ⟨g6, 1, none⟩ (.int .i64 0)).heap[g5]? = some (.cells #[.int .i64 (0), .int .i64 (1)] 27 (0, 0)) from blk_far (blk_far (blk_put (cs := #[.int .i64 0, .int .i64 0]) (blk_put (cs := #[.int .i64 0, .int .i64 0]) BK5.out 0 _ rfl) 1 _ rfl) hne _) hne _)
  have K6 := Aside0.mk (show ((((w6.setCell ⟨g5, 0, none⟩ (.int .i64 0)).setCell ⟨g5, 1, none⟩ (.int .i64 1)).setCell ⟨g6, 0, none⟩ (.int .i64 1)).setCell ⟨g6, 1, none⟩ (.int .i64 0)).heap[g6]? = some (.cells #[.int .i64 (1), .int .i64 (0)] 27 (0, 0)) from blk_put (cs := #[.int .i64 1, .int .i64 0]) (blk_put (cs := #[.int .i64 0, .int .i64 0]) (blk_far (blk_far BK6.out hne' _) hne' _) 0 _ rfl) 1 _ rfl)
  go_loopg [4, 14] l0.length (fun kq v4 v14 w' => ∃ (out : List S27) (x lp lq bp bq : Int), v14 = .int .i64 x ∧ Aside0 (0 ≤ x ∧ x + kq = l0.length ∧ impl_convergents.go (l0.drop x.toNat) out lp lq bp bq = some (r1, r2)) ∧ Aside0 (Kd.R k27 27 w' w.heap.size (fun k_ => k_ ≠ g5 ∧ k_ ≠ g6) v4 out) ∧ Aside0 (w'.heap[g5]? = some (.cells #[.int .i64 (bp), .int .i64 (bq)] 27 (0, 0))) ∧ Aside0 (w'.heap[g6]? = some (.cells #[.int .i64 (lp), .int .i64 (lq)] 27 (0, 0))) ∧ Aside0 (Below w.heap.size w w'))
  case atStart =>
    refine ⟨[], 0, 1, 0, 0, 1, rfl, ⟨by omega, by omega, by have h_ := H'.out; unfold impl_convergents.f at h_; simpa using h_⟩, ⟨?_⟩, K5, K6, ⟨?_⟩⟩
    · exact Kd.R_mono (Kd.R_far (p := ⟨g6, 1, none⟩) (Kd.R_far (p := ⟨g6, 0, none⟩) (Kd.R_far (p := ⟨g5, 1, none⟩) (Kd.R_far (p := ⟨g5, 0, none⟩) HO170.out (fun _ hk => hk.1.2) (.int .i64 0)) (fun _ hk => hk.1.2) (.int .i64 1)) (fun _ hk => hk.2) (.int .i64 1)) (fun _ hk => hk.2) (.int .i64 0)) (fun _ hk => ⟨hk.1.2, hk.2⟩)
    · exact below_set (below_set (below_set (below_set HB.out GE5.out) GE5.out) GE6.out) GE6.out
  case round =>
    clear H' K5 K6 HO170 BK5 BK6 HB hcz5_0 hcz5_1 hcz8_0 hcz8_1 hfz5_0 hfz5_1 hfz8_0 hfz8_1
    obtain ⟨out, x, lp, lq, bp, bq, rfl, HX, HO, K5, K6, HB⟩ := hrel
    cases gk with
    | zero =>
      have hx := HX.out
      have hb : decide (x < (l0.length : Int)) = false := decide_eq_false (by omega)
      have he := hx.2.2
      rw [List.drop_eq_nil_of_le (by omega)] at he
      simp only [impl_convergents.go, Option.some.injEq, Prod.mk.injEq] at he
      obtain ⟨rfl, rfl⟩ := he
      clear hx HX
      go_wp2
      go_ret2
      exact ⟨_, rfl, Kd.R_mono HO.out (fun _ _ => trivial), HB.out⟩
    | succ k1 =>
      have hx := HX.out
      have p1 : 0 ≤ x := hx.1
      have q1 : x < (l0.length : Int) := by omega
      have hd := drop_rdV l0 x p1 q1
      have hb : decide (x < (l0.length : Int)) = true := decide_eq_true q1
      obtain ⟨ad, e, hcell⟩ := Kd.at_int (Kd.C_below HR0.out HB.out) x p1 q1
      cases e
      have hw : wrap64 (x + 1) = x + 1 := Go.IntWalk.wrap64_in _ (by have := HL.out; omega)
      have HW := Aside0.mk hw
      have H := hx.2.2
      rw [hd] at H
      simp only [impl_convergents.go] at H
      have hc50 := (blk_cell K5.out 0).trans rfl
      have hc51 := (blk_cell K5.out 1).trans rfl
      have hc60 := (blk_cell K6.out 0).trans rfl
      have hc61 := (blk_cell K6.out 1).trans rfl
      have hf50 := blk_frozen K5.out 0
      have hf51 := blk_frozen K5.out 1
      have hf60 := blk_frozen K6.out 0
      have hf61 := blk_frozen K6.out 1
      have HX2 := Aside0.mk (show 0 ≤ wrap64 (x + 1) ∧ wrap64 (x + 1) + k1 = l0.length ∧ (x + 1).toNat = (wrap64 (x + 1)).toNat by rw [hw]; exact ⟨by omega, by omega, rfl⟩)
      clear hx hd hw HX HW
      replace p1 := eq_true p1
      replace q1 := eq_true q1
      obtain ⟨p, hp⟩ : ∃ p, p = wrap64 (wrap64 (rd l0 x * lp) + bp) := ⟨_, rfl⟩
      obtain ⟨q, hq⟩ : ∃ q, q = wrap64 (wrap64 (rd l0 x * lq) + bq) := ⟨_, rfl⟩
      obtain ⟨W1, hW1⟩ : ∃ W1, W1 = ((((wr.setCell ⟨g5, 0, none⟩ (.int .i64 lp)).setCell ⟨g5, 1, none⟩ (.int .i64 lq)).setCell ⟨g6, 0, none⟩ (.int .i64 p)).setCell ⟨g6, 1, none⟩ (.int .i64 q)).drew := ⟨_, rfl⟩
      have K5' := Aside0.mk (show W1.heap[g5]? = some (.cells #[.int .i64 lp, .int .i64 lq] 27 (0, 0)) by rw [hW1]; exact blk_drew (blk_far (blk_far (blk_put (cs := #[.int .i64 lp, .int .i64 bq]) (blk_put (cs := #[.int .i64 bp, .int .i64 bq]) K5.out 0 _ rfl) 1 _ rfl) hne _) hne _))
      have K6' := Aside0.mk (show W1.heap[g6]? = some (.cells #[.int .i64 p, .int .i64 q] 27 (0, 0)) by rw [hW1]; exact blk_drew (blk_put (cs := #[.int .i64 p, .int .i64 lq]) (blk_put (cs := #[.int .i64 lp, .int .i64 lq]) (blk_far (blk_far K6.out hne' _) hne' _) 0 _ rfl) 1 _ rfl))
      have HO' := Aside0.mk (show Kd.R k27 27 W1 w.heap.size (fun k_ => k_ ≠ g5 ∧ k_ ≠ g6) u4 out by rw [hW1]; exact Kd.R_drew (Kd.R_far (p := ⟨g6, 1, none⟩) (Kd.R_far (p := ⟨g6, 0, none⟩) (Kd.R_far (p := ⟨g5, 1, none⟩) (Kd.R_far (p := ⟨g5, 0, none⟩) HO.out (fun _ hk => hk.1) _) (fun _ hk => hk.1) _) (fun _ hk => hk.2) _) (fun _ hk => hk.2) _))
      have HB' := Aside0.mk (show Below w.heap.size w W1 by rw [hW1]; exact below_drew1 (below_set (below_set (below_set (below_set HB.out GE5.out) GE5.out) GE6.out) GE6.out))
      have HW1 := Aside0.mk hW1
      have HP := Aside0.mk hp.symm
      have HQ := Aside0.mk hq.symm
      rw [← hp, ← hq] at H
      clear hp hq hW1
      go_wp2
      go_region
      rw [HP.out, HQ.out, ← HW1.out]
      clear HW1 HO K5 K6 HB hc50 hc51 hc60 hc61 hf50 hf51 hf60 hf61 hcell
      have hc60 : W1.cell? ⟨g6, 0, none⟩ = some (.int .i64 p) := (blk_cell K6'.out 0).trans rfl
      have hc61 : W1.cell? ⟨g6, 1, none⟩ = some (.int .i64 q) := (blk_cell K6'.out 1).trans rfl
      by_cases c1 : p > 1000000000
      · rw [if_pos c1] at H
        have c1b : decide (1000000000 < p) = true := decide_eq_true c1
        simp only [Option.some.injEq, Prod.mk.injEq] at H
        obtain ⟨rfl, rfl⟩ := H
        clear c1
        go_wp2
        go_ret2
        exact ⟨_, rfl, Kd.R_nil _ _ _ _ _, by repeat (first | exact HB'.out | apply below_drew1 | apply pw_below_drewN)⟩
      · rw [if_neg c1] at H
        have c1b : decide (1000000000 < p) = false := decide_eq_false c1
        by_cases c2 : q > 1000000000
        · rw [if_pos c2] at H
          have c2b : decide (1000000000 < q) = true := decide_eq_true c2
          simp only [Option.some.injEq, Prod.mk.injEq] at H
          obtain ⟨rfl, rfl⟩ := H
          clear c1 c2
          go_wp2
          go_ret2
          exact ⟨_, rfl, Kd.R_nil _ _ _ _ _, by repeat (first | exact HB'.out | apply below_drew1 | apply pw_below_drewN)⟩
        · rw [if_neg c2] at H
          have c2b : decide (1000000000 < q) = false := decide_eq_false c2
          by_cases c3 : out.length < 8796093022208
          · rw [if_pos c3] at H
            have LM := Aside0.mk c3
            have H := Aside0.mk H
            clear c1 c2 c3
            go_wp2_with (first | ((with_reducible refine gate_builtin (b := .append) (xs := #[.tmp 42, .tmp 44]) rfl ?_); at_builtin; refine Kd.R_append k27 (w0 := w) w.heap.size rfl (.tmp 42) (.tmp 44) 37 27 (.agg #[(.int .i64 0), (.int .i64 0)]) 16 rfl Try.underlying37 info27 rfl (by decide) (by omega) u4 out (⟨p, q⟩ : S27) [.int .i64 p, .int .i64 q] (fun k_ => k_ ≠ g5 ∧ k_ ≠ g6) (fun _ => False) rfl (by first | (go_simp; done) | (go_simp; rfl)) ?aP (fun _ hk => hk.elim) ?aF ?aO ?aB ?aS ?aL ?_; (case aP => exact k27_mkM _ _ _ (⟨p, q⟩ : S27)); (case aB => exact HB'.out); (case aF => exact (fun k_ hk => ⟨Kd.freshB K5'.out k_ hk, Kd.freshB K6'.out k_ hk⟩)); (case aO => exact HO'.out); (case aS => exact below_size HB'.out); (case aL => have := LM.out; omega); intro v183 w39 ho hb hg hat; have n0_ := Aside0.mk (blk_grown K5'.out hg (Kd.R_away HO'.out (fun _ hk => hk.1))); have n1_ := Aside0.mk (blk_grown K6'.out hg (Kd.R_away HO'.out (fun _ hk => hk.2))); have n3_ := Aside0.mk hb; have n4_ := Aside0.mk ho; clear ho hb hg hat))
            go_roundg k1
            case measure => omega
            case rel =>
              have hx2 := HX2.out
              exact ⟨out ++ [⟨p, q⟩], wrap64 (x + 1), p, q, lp, lq, rfl, ⟨hx2.1, hx2.2.1, by rw [← hx2.2.2]; exact H.out⟩, n4_, n0_, n1_, n3_⟩
          · rw [if_neg c3] at H
            cases H
theorem impl_convergents.calls (A0 : Option Addr) (c0 : Nat) (l0 : List Int) (r1 : List S27) (r2 : Bool) (w : World) (hr0 : Kd.C (Kd.int .i64) w A0 l0.length l0) (hc0 : l0.length ≤ c0) (h : impl_convergents.f l0 = some (r1, r2)) :
    Calls Try.prog 52 #[.slice A0 l0.length c0] w fun e w' => ∃ v0_ : Value, e = .returned (.tuple #[v0_, .bool r2]) ∧ Kd.R k27 27 w' w.heap.size (fun _ => True) v0_ r1 ∧ Below w.heap.size w w' :=
  conv_start w A0 c0 l0 hr0 hc0 r1 r2 h
end Go.Proofs.Ytmjfpigkobeahaa.P
