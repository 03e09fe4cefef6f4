/- The text of a train, as the program makes it; where the table of the powers of ten holds what the program's text lays. -/
import Derived.Test.YtdgillfbdlmloaaDoorStackT
import Derived.Test.YtdgillfbdlmloaaDoorTrainA
import Derived.Deep.RegionLaw
namespace Go.Proofs.YtdgillfbdlmloaaDoor.P
open Go.RowKit Go.Proofs.YtdgillfbdlmloaaDoorW.PrintWords Go.Proofs.YtdgillfbdlmloaaDoorW.PrintLast Go.Proofs.YtdgillfbdlmloaaDoorW.PrintMore
set_option linter.unusedVariables false
set_option linter.unusedSimpArgs false
abbrev SP := S57
/-- 'append' where it stands within a region that draws. -/
theorem step_append {P : Program} {ops : Array Oper} {o : Oper} {a : Act} {w : World} {K : Act → World → Prop} {Q : Exit → Act → World → Prop} {E : Prop} (hgd : o.guard = none) (s x : Operand) (t : TypeId) (hop : o.op = .call { callee := .builtin .append, args := #[s, x], argTypes := #[t, t] })
    (base : Nat) (e : TypeId) (i : TypeInfo) (z : Value) (size bytes : Nat) (ht : P.underlying t = some (.slice e)) (hi : P.info? e = some i) (hz : i.zero = some z)
    (hsize : i.size = size) (hby : i.bytes = bytes) (hzs : z.cells.size = size) (hsz : 0 < size) (v : Value) (k : Nat) (xs : List Value) (hs : a.eval s = v) (hown : w.ownsRow base e size v k xs)
    (ad : Addr) (m c : Nat) (news : List Value) (hx : a.eval x = .slice (some ad) m c) (hl : news.length = m * size) (hnews : ∀ j u, news[j]? = some u → w.cell? (ad.add j) = some u) (h1 : ∀ u ∈ news, u.oneCell' = true)
    (h63 : k + m ≤ maxLen) (hbytes : (k + m) * bytes ≤ 140737488355328) (hbase : base ≤ w.heap.size)
    (h : ∀ v' w', w'.ownsRow base e size v' (k + m) (xs ++ news) → w.grownBy w' v.ownBlock → K (a.put o.dst v') w') :
    if Region.wanted o (yielded ops a.tmps) = true then Oper.wp P o a w K Q else E := by
  have hw : Region.wanted o (yielded ops a.tmps) = true := by simp [Region.wanted, hgd]
  rw [if_pos hw]
  obtain ⟨v', w', hrun, r1, r2, _⟩ := run_append_own (P := P) (w := w) base t o.type e i z size bytes ht hi hz hsize hby hzs hsz v k xs hown ad m c news hl hnews h1 h63 hbytes hbase
  unfold Oper.wp
  simp [execOp, hop, resolve, invoke, builtin, hs, hx, hrun, Result.andThen]
  exact h _ _ r1 r2
def pairS (p : SP) : ByteArray := (decS (wrap64 p.f0) ++ ⟨#[47]⟩) ++ decS (wrap64 p.f1)
def strT (l : List SP) : List Value := l.map fun p => Value.string (pairS p)
theorem dec_size (n : Int) : (decS (wrap64 n)).size ≤ 21 := by
  have := Lib.itoa_length_le (wrap64 n) (w64_in _).1 (w64_in _).2
  show (Lib.itoa (wrap64 n)).toArray.size ≤ 21
  simpa using this
theorem pairS_le (p : SP) : (pairS p).data.toList.length ≤ 50 := by
  have h1 := dec_size p.f0
  have h2 := dec_size p.f1
  have e : (pairS p).data.toList.length = (decS (wrap64 p.f0)).size + 1 + (decS (wrap64 p.f1)).size := by
    have : (pairS p).size = (decS (wrap64 p.f0)).size + 1 + (decS (wrap64 p.f1)).size := by
      unfold pairS
      rw [ByteArray.size_append, ByteArray.size_append]
      rfl
    rw [← this]
    show _ = (pairS p).data.size
    exact Array.length_toList
  omega
theorem row_cells {W : World} {n₀ g cap : Nat} {t : TypeId} (ss : List ByteArray) (h : W.ownsRow n₀ t 1 (.slice (some ⟨g, 0, none⟩) ss.length cap) ss.length (ss.map Value.string)) (hn : 1 ≤ ss.length) : ss.length ≤ cap ∧ g < W.heap.size ∧ ∀ (j : Nat) (s : ByteArray), ss[j]? = some s → W.cell? ⟨g, 0 + j, none⟩ = some (.string s) := by
  rcases h.2 with ⟨e, _⟩ | ⟨g', cap', cur, e, _, hg, hc, _, _, ht⟩
  · cases e
  · injection e with e1 e2 e3
    injection e1 with e1
    injection e1 with e1
    subst e1
    subst e3
    refine ⟨hc, (Array.getElem?_eq_some_iff.1 hg).1, fun j s hj => ?_⟩
    have hjl : j < ss.length := (List.getElem?_eq_some_iff.1 hj).1
    rw [Nat.zero_add]
    refine (blk_cell hg j).trans ?_
    have h2 : (cur.toList.take (ss.length * 1))[j]? = cur.toList[j]? := by rw [List.getElem?_take, if_pos (by omega)]
    rw [← Array.getElem?_toList, ← h2, ht, List.getElem?_map, hj]
    rfl
set_option maxRecDepth 100000 in
set_option maxHeartbeats 8000000 in
theorem trainText_yes (A0 : Option Addr) (c0 : Nat) (l0 : List SP) (w : World) (hr0 : Kd.C k57 w A0 l0.length l0) (hc0 : l0.length ≤ c0) (ht : Tab w) (hv : impl_ValidTrain.f l0 = some true) (h1 : 1 ≤ l0.length) (h4 : l0.length ≤ 4) :
    Calls Tryd.prog 11 #[.slice A0 l0.length c0] w fun e W' => e = .returned (.string ⟨(Lib.join (l0.map fun p => (pairS p).data.toList) [32]).toArray⟩) ∧ Below w.heap.size w W' := by
  have HV := Aside0.mk hv
  have HR0 := Aside0.mk hr0
  have HC0 := Aside0.mk hc0
  have HTAB := Aside0.mk ht
  have H14 := Aside0.mk (And.intro h1 h4)
  clear hv hr0 hc0 ht h1 h4
  go_enter Tryd.func11, Tryd.ntmps11
  go_wp2_with (go_at_call 33; refine (impl_ValidTrain.calls A0 c0 l0 true _ HR0.out HC0.out HV.out).mono ?_; rintro e w1 ⟨rfl, hb1⟩; have HB1 := Aside0.mk hb1; clear hb1)
  go_loopg [3, 12] l0.length (fun kq v3 v12 w' => ∃ (x : Int), v12 = .int .i64 x ∧ Aside0 (0 ≤ x ∧ x + kq = l0.length) ∧ Aside0 (w'.ownsRow w.heap.size 9 1 v3 x.toNat (strT (l0.take x.toNat))) ∧ Aside0 (Below w.heap.size w w'))
  case atStart => exact ⟨0, rfl, ⟨by omega, by omega⟩, ⟨⟨rfl, .inr ⟨w1.heap.size, 0, #[], rfl, HB1.out.size, blk_new w1 _, Nat.le_refl _, by unfold maxLen; omega, rfl, rfl⟩⟩⟩, ⟨HB1.out.alloc HB1.out.size _⟩⟩
  case round =>
    clear HB1
    obtain ⟨x, rfl, HX, HROW, HB⟩ := hrel
    cases gk with
    | zero =>
      have hx := HX.out
      have hb : decide (x < (l0.length : Int)) = false := decide_eq_false (by omega)
      have hxl : x.toNat = l0.length := by omega
      have hrow := HROW.out
      rw [hxl, List.take_length] at hrow
      have hn := H14.out
      obtain ⟨g', cap', rfl⟩ : ∃ g' cap', u3 = .slice (some ⟨g', 0, none⟩) l0.length cap' := by
        rcases hrow.2 with ⟨_, e⟩ | ⟨g', cap', cur, e, _⟩
        · omega
        · exact ⟨g', cap', e⟩
      have hrow2 : wr.ownsRow w.heap.size 9 1 (.slice (some ⟨g', 0, none⟩) (l0.map pairS).length cap') (l0.map pairS).length ((l0.map pairS).map Value.string) := by
        rw [List.length_map, List.map_map]
        exact hrow
      obtain ⟨j1, j2, j3⟩ := row_cells (l0.map pairS) hrow2 (by rw [List.length_map]; omega)
      have hj := Tryd.strings_Join g' 0 cap' (l0.map pairS) ⟨#[32]⟩ wr j3 j2 (by rw [List.length_map]; omega) j1 (join_le _ _ rfl (fun y hy => by
        simp only [List.mem_map] at hy
        obtain ⟨s, ⟨a, _, rfl⟩, rfl⟩ := hy
        exact pairS_le a) (by simp; omega))
      rw [List.length_map, List.map_map] at hj
      have HJ := Aside0.mk hj
      clear hx HX HROW hxl hrow hrow2 hn j1 j2 j3 hj
      go_wp2_with (go_at_call 35; refine HJ.out.mono ?_; rintro e W2 ⟨rfl, hb2⟩; have HB2 := Aside0.mk hb2; clear hb2)
      go_ret
      exact ⟨rfl, HB.out.trans (HB2.out.mono HB.out.size)⟩
    | succ k1 =>
      have hx := HX.out
      have p1 : 0 ≤ x := hx.1
      have q1 : x < (l0.length : Int) := by omega
      have hb : decide (x < (l0.length : Int)) = true := decide_eq_true q1
      obtain ⟨ad, e, hcell0, hcell1⟩ := at_T57 (Kd.C_below HR0.out HB.out) x p1 q1
      cases e
      have hw : wrap64 (x + 1) = x + 1 := Go.IntWalk.wrap64_in _ (by have := H14.out; omega)
      generalize hp : rd_T57 l0 x = p at *
      have HN := Aside0.mk (show 0 ≤ wrap64 (x + 1) ∧ wrap64 (x + 1) + k1 = l0.length ∧ (wrap64 (x + 1)).toNat = x.toNat + 1 ∧ strT (l0.take (wrap64 (x + 1)).toNat) = strT (l0.take x.toNat) ++ [Value.string (pairS p)] by
        rw [hw, show (x + 1).toNat = x.toNat + 1 by omega]
        refine ⟨by omega, by omega, rfl, ?_⟩
        have e2 : l0.take (x.toNat + 1) = l0.take x.toNat ++ [p] := by
          rw [List.take_succ_eq_append_getElem (by omega), ← hp]
          simp [rd_T57, List.getD, List.getElem?_eq_getElem (show x.toNat < l0.length by omega)]
        rw [e2]
        simp [strT])
      have HX4 := Aside0.mk (show x.toNat + 1 ≤ 4 by have := H14.out; omega)
      clear hx hw HX hp
      replace p1 := eq_true p1
      replace q1 := eq_true q1
      go_wp2
      obtain ⟨gb, hgb⟩ : ∃ gb, gb = wr.heap.size := ⟨_, rfl⟩
      have hx0 := blk_cell (blk_new wr (.cells #[.int .i16 p.f0, .int .i16 p.f1] 57)) 0
      have hx1 := blk_cell (blk_new wr (.cells #[.int .i16 p.f0, .int .i16 p.f1] 57)) 1
      simp only [List.getElem?_toArray, List.getElem?_cons_zero, List.getElem?_cons_succ] at hx0 hx1
      have hrowb := HROW.out.alloc (.cells #[.int .i16 p.f0, .int .i16 p.f1] 57)
      have hBb : Below w.heap.size w (wr.alloc (.cells #[.int .i16 p.f0, .int .i16 p.f1] 57)) := HB.out.alloc HB.out.size _
      rw [← hgb] at hx0 hx1 ⊢
      generalize wr.alloc (.cells #[.int .i16 p.f0, .int .i16 p.f1] 57) = wb at *
      clear hgb HB HROW
      have HBB := Aside0.mk hBb
      have HRB := Aside0.mk hrowb
      have HX0 := Aside0.mk hx0
      have HX1 := Aside0.mk hx1
      have HD0 := Aside0.mk (show Calls Tryd.prog 34 #[.int .i64 (wrap64 p.f0)] wb.drew fun e w' => e = .returned (.string (decS (wrap64 p.f0))) ∧ Below wb.drew.heap.size wb.drew w' from decimal_calls _ (w64_in _).1 (w64_in _).2 _ (tab_keep HTAB.out (below_drew1 hBb) (Nat.le_refl _)))
      have hs0 := dec_size p.f0
      have hs1 := dec_size p.f1
      have z0 : (9223372036854775807 < (decS (wrap64 p.f0)).size + 1) = False := eq_false (by omega)
      have z1 : (9223372036854775807 < (decS (wrap64 p.f0)).size + 1 + (decS (wrap64 p.f1)).size) = False := eq_false (by omega)
      obtain ⟨i0, hi, hz0, hz1, hz2⟩ := info_parts (show (Tryd.prog.info? 9).map (fun i => (i.zero, i.size, i.bytes)) = some (some (.string ⟨#[]⟩), 1, 16) by kernel_rfl)
      clear hBb hrowb hs0 hs1
      go_region_law (first
        | (go_simp; go_at_call 34; (try simp only [i64_w]); refine HD1.out.mono ?_; rintro e W2 ⟨rfl, hb2⟩; clear HD1; have hbb2 : Below wb.heap.size wb W2 := HBB1.out.trans (hb2.mono HBB1.out.size); clear hb2; have HBB2 := Aside0.mk hbb2; have HR2 := Aside0.mk (own_move HRB.out (fun k hk => hbb2.block k (own_lt HRB.out k hk))); have hy0 := pw_cell_below hbb2 HX0.out; have hy1 := pw_cell_below hbb2 HX1.out; clear hbb2)
        | (go_simp; go_at_call 34; (try simp only [i64_w]); refine HD0.out.mono ?_; rintro e W1 ⟨rfl, hb1⟩; clear HD0; have hbb1 : Below wb.heap.size wb W1 := (below_drew1 (Below.refl _ wb)).trans hb1; clear hb1; have HBB1 := Aside0.mk hbb1; have hy0 := pw_cell_below hbb1 HX0.out; have hy1 := pw_cell_below hbb1 HX1.out; have HD1 := Aside0.mk (decimal_calls (wrap64 p.f1) (w64_in _).1 (w64_in _).2 W1 (tab_keep HTAB.out (HBB.out.trans (hbb1.mono HBB.out.size)) (Nat.le_refl _))); clear hbb1)
        | (refine step_append rfl (.tmp 16) (.tmp 27) 60 rfl w.heap.size 9 i0 _ 1 16 Tryd.underlying60 hi hz0 hz1 hz2 rfl (by decide) u3 _ _ rfl (HR2.out.alloc _) ⟨W2.heap.size, 0, none⟩ 1 1 [.string (pairS p)] rfl rfl (cell_one_new _ _ _) (by simp [Value.oneCell']) (by have := HX4.out; unfold maxLen; omega) (by have := HX4.out; omega) (by have h1 := HBB2.out.size; have h2 := HBB.out.size; simp; omega) ?_; intro v' w4 hown' hgrow; have HO4 := Aside0.mk hown'; have HG4 := Aside0.mk hgrow; clear hown' hgrow))
      all_goals go_wp2
      all_goals go_roundg k1
      all_goals first
        | omega
        | (have hb4 : Below w.heap.size W2 w4 := ((Below.refl w.heap.size W2).alloc (Nat.le_trans HBB.out.size HBB2.out.size) _).grown HG4.out (by have h1 := HBB2.out.size; have h2 := HBB.out.size; simp; omega) (fun j ej => own_base HR2.out j ej)
           refine ⟨_, rfl, ⟨HN.out.1, HN.out.2.1⟩, ⟨?_⟩, ⟨(HBB.out.trans (HBB2.out.mono HBB.out.size)).trans hb4⟩⟩
           rw [HN.out.2.2.2, HN.out.2.2.1]
           exact HO4.out)
set_option maxHeartbeats 4000000 in
theorem trainText_no (A0 : Option Addr) (c0 : Nat) (l0 : List SP) (w : World) (hr0 : Kd.C k57 w A0 l0.length l0) (hc0 : l0.length ≤ c0) (hv : impl_ValidTrain.f l0 = some false) :
    Calls Tryd.prog 11 #[.slice A0 l0.length c0] w fun e W' => e = .returned (.string ⟨#[]⟩) ∧ Below w.heap.size w W' := by
  have HV := Aside0.mk hv
  have HR0 := Aside0.mk hr0
  have HC0 := Aside0.mk hc0
  clear hv hr0 hc0
  go_enter Tryd.func11, Tryd.ntmps11
  go_wp2_with (go_at_call 33; refine (impl_ValidTrain.calls A0 c0 l0 false _ HR0.out HC0.out HV.out).mono ?_; rintro e w1 ⟨rfl, hb1⟩; have HB1 := Aside0.mk hb1; clear hb1)
  go_ret
  exact ⟨rfl, HB1.out⟩
/-- The text of a train. -/
def textT (l0 : List SP) : ByteArray := ⟨(Lib.join (l0.map fun p => (pairS p).data.toList) [32]).toArray⟩
def impl_TrainText.f (l0 : List SP) : Option ByteArray := (impl_ValidTrain.f l0).bind fun v => if v = true then (if 1 ≤ l0.length then (if l0.length ≤ 4 then some (textT l0) else none) else none) else some ⟨#[]⟩
theorem impl_TrainText.calls (A0 : Option Addr) (c0 : Nat) (l0 : List SP) (r : ByteArray) (w : World) (hr0 : Kd.C k57 w A0 l0.length l0) (hc0 : l0.length ≤ c0) (h : impl_TrainText.f l0 = some r) (htab : Tab w) :
    Calls Tryd.prog 11 #[.slice A0 l0.length c0] w fun e w' => e = .returned (.string r) ∧ Below w.heap.size w w' := by
  unfold impl_TrainText.f at h
  replace h := Option.bind_eq_some_iff.mp h
  obtain ⟨v, hv, h⟩ := h
  cases v with
  | false =>
    rw [if_neg (by decide)] at h
    obtain rfl := Option.some.inj h
    exact trainText_no A0 c0 l0 w hr0 hc0 hv
  | true =>
    rw [if_pos rfl] at h
    split at h
    · rename_i h1
      split at h
      · rename_i h4
        obtain rfl := Option.some.inj h
        exact trainText_yes A0 c0 l0 w hr0 hc0 htab hv h1 h4
      · cases h
    · cases h
end Go.Proofs.YtdgillfbdlmloaaDoor.P
