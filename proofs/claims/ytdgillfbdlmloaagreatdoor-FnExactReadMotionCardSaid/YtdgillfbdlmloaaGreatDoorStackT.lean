/- The text of a stack, as the program makes it: a range over slices.Backward, strconv.FormatInt, strings.Join; where the table of the powers of ten holds what the program's text lays. -/
import Derived.Test.YtdgillfbdlmloaaGreatDoorGivV6
import Derived.Test.YtdgillfbdlmloaaGreatDoorGivK6
import Derived.Test.YtdgillfbdlmloaaGreatDoorShelf
import Derived.Shelf.RegionOpen
import Derived.Maps.AppendAt
import Derived.Lib.SmallJoins
import Derived.Lib.ItoaLen
namespace Go.Proofs.YtdgillfbdlmloaaGreatDoor.P
open Go.RowKit Go.Shelf Go.Proofs.YtdgillfbdlmloaaGreatDoorW.PrintWords Go.Proofs.YtdgillfbdlmloaaGreatDoorW.PrintLast Go.Proofs.YtdgillfbdlmloaaGreatDoorW.PrintMore
attribute [local go_sem] Oper.semAt_some
set_option linter.unusedVariables false
set_option linter.unusedSimpArgs false
/-- The table of the powers of ten holds what the program's text lays. -/
def Tab (w : World) : Prop := Lib.TabIs Tryz.prog w "internal/strconv.uint64pow10" .u64 Lib.pow10Tab
theorem tab_keep {w w' : World} {B : Nat} (h : Tab w) (hb : Below B w w') (hB : w.heap.size ≤ B) : Tab w' := by
  obtain ⟨g, hg⟩ : ∃ g, Tryz.prog.globalNamed "internal/strconv.uint64pow10" = some g := Option.isSome_iff_exists.mp (by kernel_rfl)
  exact Go.Joins.tab_stays hg h hb hB
theorem below_grow (w : World) (k : Nat) (os : Array Obj) : Below w.heap.size w (Go.Sort.grow (w.drewN k) os) :=
  (pw_below_drewN (Below.refl _ w) k).trans ⟨rfl, rfl, rfl, by simp [Go.Sort.grow], fun i hi => by
    show (w.heap ++ os)[i]? = w.heap[i]?
    exact Array.getElem?_append_left hi⟩
def decS (n : Int) : ByteArray := ⟨(Lib.itoa n).toArray⟩
set_option maxHeartbeats 2000000 in
theorem decimal_calls (n : Int) (h0 : -9223372036854775808 ≤ n) (h1 : n ≤ 9223372036854775807) (w : World) (ht : Tab w) : Calls Tryz.prog 35 #[.int .i64 n] w fun e w' => e = .returned (.string (decS n)) ∧ Below w.heap.size w w' := by
  have H0 := Aside0.mk (And.intro h0 h1)
  have HT := Aside0.mk ht
  clear h0 h1 ht
  go_enter Tryz.func35, Tryz.ntmps35
  go_wp2_with (go_at_call 50; refine (Tryz.strconv_FormatInt_10 n H0.out.1 H0.out.2 _ HT.out).mono ?_; rintro e w1 ⟨rfl, k, os, rfl⟩)
  go_ret
  exact ⟨rfl, below_grow _ _ _⟩
theorem w64_in (n : Int) : -9223372036854775808 ≤ wrap64 n ∧ wrap64 n ≤ 9223372036854775807 := by
  unfold wrap64
  omega
/-- The texts of what has come. -/
def strV (l : List (Int × Int)) : List Value := l.map fun x => Value.string (decS (wrap64 x.2))
theorem strV_snoc (l : List (Int × Int)) (x : Int × Int) : strV (l ++ [x]) = strV l ++ [Value.string (decS (wrap64 x.2))] := by simp [strV]
theorem boxed_beside {W w1 : World} {n₀ B t e size k : Nat} {s v : Value} {xs : List Value} {tmp : Obj} (hS : Boxed W B t s) (hte : t ≠ e) (hrow : W.ownsRow n₀ e size v k xs) (hgrow : (W.alloc tmp).grownBy w1 v.ownBlock) : Boxed w1 B t s := (hS.alloc tmp).kept hgrow (hS.not_row hte hrow)
/-- 'append' where it stands within a region that draws. -/
theorem step_append_in {F : Fence} {n : Nat} {P : Program} {ops : Array Oper} {o : Oper} {a : Act} {w : World} {K : Act → World → Prop} {Q : Exit → Act → World → Prop} {E : Prop} (hgd : o.guard = none) (s x : Operand) (t : TypeId) (hop : o.op = .call { callee := .builtin .append, args := #[s, x], argTypes := #[t, t] })
    (base : Nat) (e : TypeId) (i : TypeInfo) (z : Value) (size bytes : Nat) (ht : P.underlying t = some (.slice e)) (hi : P.info? e = some i) (hz : i.zero = some z)
    (hsize : i.size = size) (hby : i.bytes = bytes) (hzs : z.cells.size = size) (hsz : 0 < size) (v : Value) (k : Nat) (xs : List Value) (hs : a.eval s = v) (hown : w.ownsRow base e size v k xs)
    (ad : Addr) (m c : Nat) (news : List Value) (hx : a.eval x = .slice (some ad) m c) (hl : news.length = m * size) (hnews : ∀ j u, news[j]? = some u → w.cell? (ad.add j) = some u) (h1 : ∀ u ∈ news, u.oneCell' = true)
    (h63 : k + m ≤ maxLen) (hbytes : (k + m) * bytes ≤ 140737488355328) (hbase : base ≤ w.heap.size)
    (h : ∀ v' w', w'.ownsRow base e size v' (k + m) (xs ++ news) → w.grownBy w' v.ownBlock → K (a.put o.dst v') w') :
    if Region.wanted o (yielded ops a.tmps) = true then Oper.wpIn F n P o a w K Q else E := by
  have hw : Region.wanted o (yielded ops a.tmps) = true := by simp [Region.wanted, hgd]
  rw [if_pos hw]
  obtain ⟨v', w', hrun, r1, r2, _⟩ := run_append_own (P := P) (w := w) base t o.type e i z size bytes ht hi hz hsize hby hzs hsz v k xs hown ad m c news hl hnews h1 h63 hbytes hbase
  unfold Oper.wpIn
  refine ⟨?_, ?_⟩
  · simp [Oper.about, hop, resolve, Target.leads, Sem.run_pure]
  · rw [Oper.semAt_plain F _ _ (by rw [hop]; intro c hc'; cases hc')]
    simp [execOp, hop, resolve, invoke, builtin, hs, hx, hrun, Result.andThen]
    exact h _ _ r1 r2
theorem lens_le (xs : List (List UInt8)) (h : ∀ x ∈ xs, x.length ≤ 50) : Lib.lens xs ≤ 50 * xs.length := by
  induction xs with
  | nil => simp [Lib.lens]
  | cons x xs ih =>
    have h1 := h x (by simp)
    have h2 := ih (fun y hy => h y (by simp [hy]))
    simp only [Lib.lens, List.map_cons, List.sum_cons, List.length_cons] at h2 ⊢
    omega
theorem join_le (xs : List (List UInt8)) (sep : List UInt8) (hs : sep.length = 1) (h : ∀ x ∈ xs, x.length ≤ 50) (hn : xs.length ≤ 1000) : (Lib.join xs sep).length ≤ 140737488355328 := by
  cases xs with
  | nil => simp [Lib.join_nil]
  | cons x r =>
    have := lens_le (x :: r) h
    rw [Lib.join_length, hs]
    simp only [List.length_cons] at *
    omega
theorem strV_cells {W : World} {n₀ g cap : Nat} {t : TypeId} {l : List (Int × Int)} (h : W.ownsRow n₀ t 1 (.slice (some ⟨g, 0, none⟩) l.length cap) l.length (strV l)) (hn : 1 ≤ l.length) : l.length ≤ cap ∧ g < W.heap.size ∧ ∀ (j : Nat) (s : ByteArray), (l.map fun x => decS (wrap64 x.2))[j]? = some s → W.cell? ⟨g, 0 + j, none⟩ = some (.string s) := by
  rcases h.2 with ⟨e, _⟩ | ⟨g', cap', cur, e, _, hg, hc, _, _, ht⟩
  · cases e
  · injection e with e1 e2 e3
    injection e1 with e1
    injection e1 with e1
    subst e1
    subst e3
    refine ⟨hc, (Array.getElem?_eq_some_iff.1 hg).1, fun j s hj => ?_⟩
    have hjl : j < l.length := by
      have := (List.getElem?_eq_some_iff.1 hj).1
      simpa using this
    rw [Nat.zero_add]
    refine (blk_cell hg j).trans ?_
    have h2 : (cur.toList.take (l.length * 1))[j]? = cur.toList[j]? := by rw [List.getElem?_take, if_pos (by omega)]
    rw [← Array.getElem?_toList, ← h2, ht]
    unfold strV
    rw [List.getElem?_map] at hj ⊢
    cases hx : l[j]? with
    | none => rw [hx] at hj; cases hj
    | some x =>
      rw [hx] at hj
      injection hj with hj
      exact congrArg (fun t => some (Value.string t)) hj
/-- What a round leaves. -/
theorem stackT_end {W W1 W2 w : World} {g g' cap' B0 : Nat} {pre : List (Int × Int)} {x : Int × Int} {A0 : Option Addr} {len c0 : Nat}
    (hk2 : KeepsOthers W1 W2) (hb2 : Below w.heap.size W1 W2) (hv2 : Boxed W2 (g + 1) 32 (.slice (some ⟨g', 0, none⟩) (pre.length + 1) cap')) (hr2 : W2.ownsRow w.heap.size 9 1 (.slice (some ⟨g', 0, none⟩) (pre.length + 1) cap') (pre.length + 1) (strV pre ++ [Value.string (decS (wrap64 x.2))]))
    (hB : Below w.heap.size w W) (hS : Boxed W (g + 1 + 1) 23 (.slice A0 len c0)) (hbb : Below W.heap.size W W1) (hko1 : KeepsOthers W W1) (hS2 : Boxed W2 (g + 1 + 1) 23 (.slice A0 len c0)) :
    KeepsFrom B0 W W2 ∧ KB w.heap.size (g + 1 + 1) W W2 ∧ ((∃ v, Boxed W2 (g + 1) 32 v ∧ W2.ownsRow w.heap.size 9 1 v (pre ++ [x]).length (strV (pre ++ [x])) ∧ True) ∧ Boxed W2 (g + 1 + 1) 23 (.slice A0 len c0) ∧ Below w.heap.size w W2) := by
  have hb := (hbb.mono hB.size).trans hb2
  refine ⟨(hko1.trans hk2).from _, ⟨hb, fun u hu => ?_⟩, ⟨⟨_, hv2, ?_, trivial⟩, hS2, hB.trans hb⟩⟩
  · rw [hS.cell] at hu
    cases hu
    exact hS2.cell
  · rw [strV_snoc, List.length_append]
    exact hr2
set_option maxRecDepth 100000 in
set_option maxHeartbeats 8000000 in
theorem stackText_in (n : Nat) (hn : 3 ≤ n) (A0 : Option Addr) (c0 : Nat) (l0 : List Int) (w : World) (hr0 : Kd.C (Kd.int .u8) w A0 l0.length l0) (hc0 : l0.length ≤ c0) (ht : Tab w) (hv : impl_ValidStack.f l0 = some true) (h0 : 1 ≤ l0.length) (h8 : l0.length ≤ 8) :
    CallsIn Fence.wide n Tryz.prog 32 #[.slice A0 l0.length c0] w fun e W' => e = .returned (.string ⟨(Lib.join ((upto (bk l0) l0.length).map fun x => (decS (wrap64 x.2)).data.toList) [58]).toArray⟩) ∧ Below w.heap.size w W' := by
  have h1 : 1 ≤ n := by omega
  have HV := Aside0.mk hv
  have HR0 := Aside0.mk hr0
  have HC0 := Aside0.mk hc0
  have HTAB := Aside0.mk ht
  have hro : Fence.wide.round = none := rfl
  have hf1 : Fence.wide.fn 45 := trivial
  have hf2 : Fence.wide.fn 46 := trivial
  clear hv hr0 hc0 ht
  refine callsIn_of_wp_marks Tryz.func32 rfl trivial ?_ hro
  simp only [Tryz.ntmps32, List.size_toArray, List.length_cons, List.length_nil, Nat.reduceAdd, Nat.reduceSub, Array.replicate_succ, Array.replicate_zero, List.push_toArray, List.append_toArray, List.nil_append, List.cons_append]
  gi_wp2_with (first | (gi_at_call 45; refine ((callsIn_wide (n := n - 1)).2 (impl_ValidStack.calls A0 c0 l0 true _ HR0.out HC0.out HV.out)).mono ?_; rintro e w1 ⟨rfl, hb1⟩; have HB1 := Aside0.mk hb1; clear hb1) | (gi_at_call 46; refine (bk_in Fence.wide (n - 1) trivial hro _ _ _ _).mono ?_; rintro e w' ⟨rfl, rfl⟩))
  obtain ⟨g, hg⟩ : ∃ g, g = w1.heap.size := ⟨_, rfl⟩
  have hwg : w.heap.size ≤ g := by rw [hg]; exact HB1.out.size
  have hE := blk_alloc (blk_alloc (blk_new w1 (.cells #[] 9)) (.cells #[.slice (some ⟨w1.heap.size, 0, none⟩) 0 0] 32)) (.cells #[.slice A0 l0.length c0] 23)
  have bN := Boxed.new ((w1.alloc (.cells #[] 9)).alloc (.cells #[.slice (some ⟨w1.heap.size, 0, none⟩) 0 0] 32)) 23 (.slice A0 l0.length c0)
  have bO := (Boxed.new (w1.alloc (.cells #[] 9)) 32 (.slice (some ⟨w1.heap.size, 0, none⟩) 0 0)).alloc (.cells #[.slice A0 l0.length c0] 23)
  simp only [World.size_alloc] at bN bO
  have hB0 : Below w.heap.size w (((w1.alloc (.cells #[] 9)).alloc (.cells #[.slice (some ⟨w1.heap.size, 0, none⟩) 0 0] 32)).alloc (.cells #[.slice A0 l0.length c0] 23)) := ((HB1.out.alloc HB1.out.size _).alloc (by have := HB1.out.size; simp; omega) _).alloc (by have := HB1.out.size; simp; omega) _
  have hSz : (((w1.alloc (.cells #[] 9)).alloc (.cells #[.slice (some ⟨w1.heap.size, 0, none⟩) 0 0] 32)).alloc (.cells #[.slice A0 l0.length c0] 23)).heap.size = g + 3 := by simp [hg]
  rw [← hg] at hE bN bO hB0 hSz ⊢
  obtain ⟨W0, hW0⟩ : ∃ W0, W0 = (((w1.alloc (.cells #[] 9)).alloc (.cells #[.slice (some ⟨g, 0, none⟩) 0 0] 32)).alloc (.cells #[.slice A0 l0.length c0] 23)) := ⟨_, rfl⟩
  rw [← hW0] at hE bN bO hB0 hSz ⊢
  clear hW0 hg HB1
  have hmx : Tryz.prog.follows .mixedOrders = true := by kernel_rfl
  refine wpIn_rangeFunc_ownG hro h1 (gf := 69) (lb := #[.pointer (some ⟨g + 1 + 1, 0, none⟩)]) rfl trivial (enters_of Tryz.func69 (by kernel_rfl) rfl)
    (bk_stops (fun x : Int × Int => x) (bk l0) Fence.wide (n - 1) trivial hro (by omega) (g + 1 + 1) A0 c0 l0 (fun _ _ => rfl) w HR0.out W0 hB0 (by omega) bN.cell) (fun h k => KB_t h k) (KB_b (by omega) (by omega)) (Below.refl _ _) (fun _ => rfl)
    (fun pre W => (∃ v, Boxed W (g + 1) 32 v ∧ W.ownsRow w.heap.size 9 1 v pre.length (strV pre) ∧ True) ∧ Boxed W (g + 1 + 1) 23 (.slice A0 l0.length c0) ∧ Below w.heap.size w W)
    (fun _ _ _ => False)
    (OwnFrom.and (Own.from (holdsRow_own _ _ _ _ _ _ _ _) _) (OwnFrom.and (Own.from (boxed_own _ _ _) _) (ownFrom_below (Nat.le_refl _) (by omega))))
    (fun _ _ _ _ _ hs _ _ => hs)
    ⟨⟨_, bO, ⟨rfl, .inr ⟨g, 0, #[], rfl, hwg, hE, Nat.le_refl _, by unfold maxLen; omega, rfl, rfl⟩⟩, trivial⟩, bN, hB0⟩
    (fun x => { tmps := #[.slice A0 l0.length c0, undef, .string ⟨#[]⟩, .pointer (some ⟨g + 1, 0, none⟩), undef, .int .u8 x.2, .slice A0 l0.length c0, .bool true, .bool false, .slice (some ⟨g, 0, none⟩) 0 0, .slice A0 l0.length c0, .func (.func 69) #[] #[.pointer (some ⟨g + 1 + 1, 0, none⟩)], .int .i64 x.1, .int .u8 x.2, undef, undef, undef, undef, undef, undef, undef, undef], defers := [] }) ?assign ?body ?done ?stop
  case assign =>
    intro l x W K hK
    gi_wp2
    exact hK
  case body =>
    rintro l pre x W ⟨⟨v, hv, hrow, _⟩, hS, hB⟩ hlt
    have hc := hv.cell
    have hf := hv.frozen
    have HTW := Aside0.mk (tab_keep HTAB.out hB (Nat.le_refl _))
    have hf3 : Fence.wide.fn 35 := trivial
    obtain ⟨i0, hi, hz0, hz1, hz2⟩ := info_parts (show (Tryz.prog.info? 9).map (fun i => (i.zero, i.size, i.bytes)) = some (some (.string ⟨#[]⟩), 1, 16) by kernel_rfl)
    gi_wp2
    have h2 : 1 ≤ n - 1 - 1 := by omega
    have hBS := hB.size
    have test : CallsIn (Fence.wide.inRound l) (n - 1 - 1 - 1) Tryz.prog 35 #[.int .i64 (wrap64 x.2)] W.drew fun e w' => e = .returned (.string (decS (wrap64 x.2))) ∧ Below W.drew.heap.size W.drew w' := CallsIn.inRound l ((callsIn_wide (n := _)).2 (decimal_calls (wrap64 x.2) (w64_in _).1 (w64_in _).2 _ HTW.out))
    have HTEST := Aside0.mk test
    refine wpIn_region_any (by assumption) ?_
    change wpAnyIn _ _ _ _ _ _ _ _ _ (World.drew _)
    refine wpAnyIn_ready (rs := [0, 1]) (by kernel_rfl) (by simp) ?_
    refine (AllReadyIn.cons rfl (fun K hK => ?_) (AllReadyIn.cons rfl (fun K hK => ?_) AllReadyIn.nil))
    · (go_simp; refine hK _ _ ?_; clear hK K)
      refine wpAnyIn_ready (rs := [1]) (by kernel_rfl) (by simp) ?_
      refine (AllReadyIn.cons rfl (fun K hK => ?_) AllReadyIn.nil)
      (go_simp; refine hK _ _ ?_; clear hK K)
      refine wpAnyIn_ready (rs := [2]) (by kernel_rfl) (by simp) ?_
      refine (AllReadyIn.cons rfl (fun K hK => ?_) AllReadyIn.nil)
      (go_simp; refine hK _ _ ?_; clear hK K)
      refine wpAnyIn_ready (rs := [3]) (by kernel_rfl) (by simp) ?_
      refine (AllReadyIn.cons rfl (fun K hK => ?_) AllReadyIn.nil)
      (go_simp; gi_wp2_with (gi_at_call 35; simp only [i64_w]; refine HTEST.out.mono ?_; rintro e W1 ⟨rfl, hb1⟩; have hbb : Below W.heap.size W W1 := (below_drew1 (Below.refl _ W)).trans hb1; clear hb1; have hv1 : Boxed W1 (g + 1) 32 v := (hbb.block _ hv.lt).trans hv; have hS1 : Boxed W1 (g + 1 + 1) 23 (.slice A0 l0.length c0) := (hbb.block _ hS.lt).trans hS; have hrow1 := own_move hrow (fun k hk => hbb.block k (own_lt hrow k hk)); have hc1 := hv1.cell; have hc1a : ∀ o, (W1.alloc o).cell? ⟨g + 1, 0, none⟩ = some v := fun o => (hv1.alloc o).cell; have hko1 : KeepsOthers W W1 := ⟨hbb.size, fun k o hk _ => (hbb.block k (Array.getElem?_eq_some_iff.1 hk).1).trans hk⟩); first | (refine hK _ _ ?_; clear hK K) | skip)
      refine wpAnyIn_ready (rs := [4]) (by kernel_rfl) (by simp) ?_
      refine (AllReadyIn.cons rfl (fun K hK => ?_) AllReadyIn.nil)
      (go_simp; refine hK _ _ ?_; clear hK K)
      refine wpAnyIn_ready (rs := [5]) (by kernel_rfl) (by simp) ?_
      refine (AllReadyIn.cons rfl (fun K hK => ?_) AllReadyIn.nil)
      (refine step_append_in rfl (.tmp 14) (.tmp 18) 32 rfl w.heap.size 9 i0 _ 1 16 Tryz.underlying32 hi hz0 hz1 hz2 rfl (by decide) v _ _ rfl (hrow1.alloc _) ⟨W1.heap.size, 0, none⟩ 1 1 [.string (decS (wrap64 x.2))] rfl rfl (cell_one_new _ _ _) (by simp [Value.oneCell']) (by unfold maxLen; omega) (by omega) (by have := hbb.size; simp; omega) ?_; intro v' w2 hown' hgrow; obtain ⟨g', cap', rfl⟩ := ownsRow_succ hown'; obtain ⟨hvv1, hv2, hr2, hk2, hb2⟩ := hv1.appended (by decide) hrow1 (by have := hbb.size; omega) (by omega) hown' hgrow; have hc2 := hvv1.cell; have hf2 := hvv1.frozen; refine hK _ _ ?_; clear hK K)
      refine wpAnyIn_ready (rs := [6]) (by kernel_rfl) (by simp) ?_
      refine (AllReadyIn.cons rfl (fun K hK => ?_) AllReadyIn.nil)
      (go_simp; refine hK _ _ ?_; clear hK K)
      refine wpAnyIn_done (by kernel_rfl) ?_ _
      gi_wp2
      exact stackT_end hk2 hb2 hv2 hr2 hB hS hbb hko1 ((boxed_beside hS1 (by decide) hrow1 hgrow).other (show g + 1 + 1 ≠ g + 1 by omega) _)
    · (go_simp; refine hK _ _ ?_; clear hK K)
      refine wpAnyIn_ready (rs := [0, 2]) (by kernel_rfl) (by simp) ?_
      refine (AllReadyIn.cons rfl (fun K hK => ?_) (AllReadyIn.cons rfl (fun K hK => ?_) AllReadyIn.nil))
      · (go_simp; refine hK _ _ ?_; clear hK K)
        refine wpAnyIn_ready (rs := [2]) (by kernel_rfl) (by simp) ?_
        refine (AllReadyIn.cons rfl (fun K hK => ?_) AllReadyIn.nil)
        (go_simp; refine hK _ _ ?_; clear hK K)
        refine wpAnyIn_ready (rs := [3]) (by kernel_rfl) (by simp) ?_
        refine (AllReadyIn.cons rfl (fun K hK => ?_) AllReadyIn.nil)
        (go_simp; gi_wp2_with (gi_at_call 35; simp only [i64_w]; refine HTEST.out.mono ?_; rintro e W1 ⟨rfl, hb1⟩; have hbb : Below W.heap.size W W1 := (below_drew1 (Below.refl _ W)).trans hb1; clear hb1; have hv1 : Boxed W1 (g + 1) 32 v := (hbb.block _ hv.lt).trans hv; have hS1 : Boxed W1 (g + 1 + 1) 23 (.slice A0 l0.length c0) := (hbb.block _ hS.lt).trans hS; have hrow1 := own_move hrow (fun k hk => hbb.block k (own_lt hrow k hk)); have hc1 := hv1.cell; have hc1a : ∀ o, (W1.alloc o).cell? ⟨g + 1, 0, none⟩ = some v := fun o => (hv1.alloc o).cell; have hko1 : KeepsOthers W W1 := ⟨hbb.size, fun k o hk _ => (hbb.block k (Array.getElem?_eq_some_iff.1 hk).1).trans hk⟩); first | (refine hK _ _ ?_; clear hK K) | skip)
        refine wpAnyIn_ready (rs := [4]) (by kernel_rfl) (by simp) ?_
        refine (AllReadyIn.cons rfl (fun K hK => ?_) AllReadyIn.nil)
        (go_simp; refine hK _ _ ?_; clear hK K)
        refine wpAnyIn_ready (rs := [5]) (by kernel_rfl) (by simp) ?_
        refine (AllReadyIn.cons rfl (fun K hK => ?_) AllReadyIn.nil)
        (refine step_append_in rfl (.tmp 14) (.tmp 18) 32 rfl w.heap.size 9 i0 _ 1 16 Tryz.underlying32 hi hz0 hz1 hz2 rfl (by decide) v _ _ rfl (hrow1.alloc _) ⟨W1.heap.size, 0, none⟩ 1 1 [.string (decS (wrap64 x.2))] rfl rfl (cell_one_new _ _ _) (by simp [Value.oneCell']) (by unfold maxLen; omega) (by omega) (by have := hbb.size; simp; omega) ?_; intro v' w2 hown' hgrow; obtain ⟨g', cap', rfl⟩ := ownsRow_succ hown'; obtain ⟨hvv1, hv2, hr2, hk2, hb2⟩ := hv1.appended (by decide) hrow1 (by have := hbb.size; omega) (by omega) hown' hgrow; have hc2 := hvv1.cell; have hf2 := hvv1.frozen; refine hK _ _ ?_; clear hK K)
        refine wpAnyIn_ready (rs := [6]) (by kernel_rfl) (by simp) ?_
        refine (AllReadyIn.cons rfl (fun K hK => ?_) AllReadyIn.nil)
        (go_simp; refine hK _ _ ?_; clear hK K)
        refine wpAnyIn_done (by kernel_rfl) ?_ _
        gi_wp2
        exact stackT_end hk2 hb2 hv2 hr2 hB hS hbb hko1 ((boxed_beside hS1 (by decide) hrow1 hgrow).other (show g + 1 + 1 ≠ g + 1 by omega) _)
      · (go_simp; refine hK _ _ ?_; clear hK K)
        refine wpAnyIn_ready (rs := [0, 3]) (by kernel_rfl) (by simp) ?_
        refine (AllReadyIn.cons rfl (fun K hK => ?_) (AllReadyIn.cons rfl (fun K hK => ?_) AllReadyIn.nil))
        · (go_simp; refine hK _ _ ?_; clear hK K)
          refine wpAnyIn_ready (rs := [3]) (by kernel_rfl) (by simp) ?_
          refine (AllReadyIn.cons rfl (fun K hK => ?_) AllReadyIn.nil)
          (go_simp; gi_wp2_with (gi_at_call 35; simp only [i64_w]; refine HTEST.out.mono ?_; rintro e W1 ⟨rfl, hb1⟩; have hbb : Below W.heap.size W W1 := (below_drew1 (Below.refl _ W)).trans hb1; clear hb1; have hv1 : Boxed W1 (g + 1) 32 v := (hbb.block _ hv.lt).trans hv; have hS1 : Boxed W1 (g + 1 + 1) 23 (.slice A0 l0.length c0) := (hbb.block _ hS.lt).trans hS; have hrow1 := own_move hrow (fun k hk => hbb.block k (own_lt hrow k hk)); have hc1 := hv1.cell; have hc1a : ∀ o, (W1.alloc o).cell? ⟨g + 1, 0, none⟩ = some v := fun o => (hv1.alloc o).cell; have hko1 : KeepsOthers W W1 := ⟨hbb.size, fun k o hk _ => (hbb.block k (Array.getElem?_eq_some_iff.1 hk).1).trans hk⟩); first | (refine hK _ _ ?_; clear hK K) | skip)
          refine wpAnyIn_ready (rs := [4]) (by kernel_rfl) (by simp) ?_
          refine (AllReadyIn.cons rfl (fun K hK => ?_) AllReadyIn.nil)
          (go_simp; refine hK _ _ ?_; clear hK K)
          refine wpAnyIn_ready (rs := [5]) (by kernel_rfl) (by simp) ?_
          refine (AllReadyIn.cons rfl (fun K hK => ?_) AllReadyIn.nil)
          (refine step_append_in rfl (.tmp 14) (.tmp 18) 32 rfl w.heap.size 9 i0 _ 1 16 Tryz.underlying32 hi hz0 hz1 hz2 rfl (by decide) v _ _ rfl (hrow1.alloc _) ⟨W1.heap.size, 0, none⟩ 1 1 [.string (decS (wrap64 x.2))] rfl rfl (cell_one_new _ _ _) (by simp [Value.oneCell']) (by unfold maxLen; omega) (by omega) (by have := hbb.size; simp; omega) ?_; intro v' w2 hown' hgrow; obtain ⟨g', cap', rfl⟩ := ownsRow_succ hown'; obtain ⟨hvv1, hv2, hr2, hk2, hb2⟩ := hv1.appended (by decide) hrow1 (by have := hbb.size; omega) (by omega) hown' hgrow; have hc2 := hvv1.cell; have hf2 := hvv1.frozen; refine hK _ _ ?_; clear hK K)
          refine wpAnyIn_ready (rs := [6]) (by kernel_rfl) (by simp) ?_
          refine (AllReadyIn.cons rfl (fun K hK => ?_) AllReadyIn.nil)
          (go_simp; refine hK _ _ ?_; clear hK K)
          refine wpAnyIn_done (by kernel_rfl) ?_ _
          gi_wp2
          exact stackT_end hk2 hb2 hv2 hr2 hB hS hbb hko1 ((boxed_beside hS1 (by decide) hrow1 hgrow).other (show g + 1 + 1 ≠ g + 1 by omega) _)
        · (go_simp; gi_wp2_with (gi_at_call 35; simp only [i64_w]; refine HTEST.out.mono ?_; rintro e W1 ⟨rfl, hb1⟩; have hbb : Below W.heap.size W W1 := (below_drew1 (Below.refl _ W)).trans hb1; clear hb1; have hv1 : Boxed W1 (g + 1) 32 v := (hbb.block _ hv.lt).trans hv; have hS1 : Boxed W1 (g + 1 + 1) 23 (.slice A0 l0.length c0) := (hbb.block _ hS.lt).trans hS; have hrow1 := own_move hrow (fun k hk => hbb.block k (own_lt hrow k hk)); have hc1 := hv1.cell; have hc1a : ∀ o, (W1.alloc o).cell? ⟨g + 1, 0, none⟩ = some v := fun o => (hv1.alloc o).cell; have hko1 : KeepsOthers W W1 := ⟨hbb.size, fun k o hk _ => (hbb.block k (Array.getElem?_eq_some_iff.1 hk).1).trans hk⟩); first | (refine hK _ _ ?_; clear hK K) | skip)
          refine wpAnyIn_ready (rs := [0, 4]) (by kernel_rfl) (by simp) ?_
          refine (AllReadyIn.cons rfl (fun K hK => ?_) (AllReadyIn.cons rfl (fun K hK => ?_) AllReadyIn.nil))
          · (go_simp; refine hK _ _ ?_; clear hK K)
            refine wpAnyIn_ready (rs := [4]) (by kernel_rfl) (by simp) ?_
            refine (AllReadyIn.cons rfl (fun K hK => ?_) AllReadyIn.nil)
            (go_simp; refine hK _ _ ?_; clear hK K)
            refine wpAnyIn_ready (rs := [5]) (by kernel_rfl) (by simp) ?_
            refine (AllReadyIn.cons rfl (fun K hK => ?_) AllReadyIn.nil)
            (refine step_append_in rfl (.tmp 14) (.tmp 18) 32 rfl w.heap.size 9 i0 _ 1 16 Tryz.underlying32 hi hz0 hz1 hz2 rfl (by decide) v _ _ rfl (hrow1.alloc _) ⟨W1.heap.size, 0, none⟩ 1 1 [.string (decS (wrap64 x.2))] rfl rfl (cell_one_new _ _ _) (by simp [Value.oneCell']) (by unfold maxLen; omega) (by omega) (by have := hbb.size; simp; omega) ?_; intro v' w2 hown' hgrow; obtain ⟨g', cap', rfl⟩ := ownsRow_succ hown'; obtain ⟨hvv1, hv2, hr2, hk2, hb2⟩ := hv1.appended (by decide) hrow1 (by have := hbb.size; omega) (by omega) hown' hgrow; have hc2 := hvv1.cell; have hf2 := hvv1.frozen; refine hK _ _ ?_; clear hK K)
            refine wpAnyIn_ready (rs := [6]) (by kernel_rfl) (by simp) ?_
            refine (AllReadyIn.cons rfl (fun K hK => ?_) AllReadyIn.nil)
            (go_simp; refine hK _ _ ?_; clear hK K)
            refine wpAnyIn_done (by kernel_rfl) ?_ _
            gi_wp2
            exact stackT_end hk2 hb2 hv2 hr2 hB hS hbb hko1 ((boxed_beside hS1 (by decide) hrow1 hgrow).other (show g + 1 + 1 ≠ g + 1 by omega) _)
          · (go_simp; refine hK _ _ ?_; clear hK K)
            refine wpAnyIn_ready (rs := [0]) (by kernel_rfl) (by simp) ?_
            refine (AllReadyIn.cons rfl (fun K hK => ?_) AllReadyIn.nil)
            (go_simp; refine hK _ _ ?_; clear hK K)
            refine wpAnyIn_ready (rs := [5]) (by kernel_rfl) (by simp) ?_
            refine (AllReadyIn.cons rfl (fun K hK => ?_) AllReadyIn.nil)
            (refine step_append_in rfl (.tmp 14) (.tmp 18) 32 rfl w.heap.size 9 i0 _ 1 16 Tryz.underlying32 hi hz0 hz1 hz2 rfl (by decide) v _ _ rfl (hrow1.alloc _) ⟨W1.heap.size, 0, none⟩ 1 1 [.string (decS (wrap64 x.2))] rfl rfl (cell_one_new _ _ _) (by simp [Value.oneCell']) (by unfold maxLen; omega) (by omega) (by have := hbb.size; simp; omega) ?_; intro v' w2 hown' hgrow; obtain ⟨g', cap', rfl⟩ := ownsRow_succ hown'; obtain ⟨hvv1, hv2, hr2, hk2, hb2⟩ := hv1.appended (by decide) hrow1 (by have := hbb.size; omega) (by omega) hown' hgrow; have hc2 := hvv1.cell; have hf2 := hvv1.frozen; refine hK _ _ ?_; clear hK K)
            refine wpAnyIn_ready (rs := [6]) (by kernel_rfl) (by simp) ?_
            refine (AllReadyIn.cons rfl (fun K hK => ?_) AllReadyIn.nil)
            (go_simp; refine hK _ _ ?_; clear hK K)
            refine wpAnyIn_done (by kernel_rfl) ?_ _
            gi_wp2
            exact stackT_end hk2 hb2 hv2 hr2 hB hS hbb hko1 ((boxed_beside hS1 (by decide) hrow1 hgrow).other (show g + 1 + 1 ≠ g + 1 by omega) _)
  case done =>
    rintro D ys W hD rfl ⟨⟨v, hv, hrow, _⟩, hS, hB⟩ hK
    have hvc := hv.cell
    have hf4 : Fence.wide.fn 47 := trivial
    have hul := upto_length (bk l0) l0.length
    obtain ⟨g', cap', rfl⟩ : ∃ g' cap', v = .slice (some ⟨g', 0, none⟩) (upto (bk l0) l0.length).length cap' := by
      rcases hrow.2 with ⟨_, e⟩ | ⟨g', cap', cur, e, _⟩
      · omega
      · exact ⟨g', cap', e⟩
    obtain ⟨j1, j2, j3⟩ := strV_cells hrow (by omega)
    have hj := Tryz.strings_Join g' 0 cap' ((upto (bk l0) l0.length).map fun x => decS (wrap64 x.2)) ⟨#[58]⟩ W j3 j2 (by rw [List.length_map]; omega) (by rw [List.length_map]; exact j1) (join_le _ _ rfl (fun y hy => by
      simp only [List.mem_map] at hy
      obtain ⟨s, ⟨a, _, rfl⟩, rfl⟩ := hy
      have := Lib.itoa_length_le (wrap64 a.2) (w64_in _).1 (w64_in _).2
      show (Lib.itoa (wrap64 a.2)).length ≤ 50
      omega) (by simp; omega))
    rw [List.length_map, hul] at hj
    have HJ := Aside0.mk ((callsIn_wide (n := n - 1)).2 hj)
    gi_wp2_with (gi_at_call 47; refine HJ.out.mono ?_; rintro e W2 ⟨rfl, hb2⟩)
    have hK2 := (hb2.block D (Array.getElem?_eq_some_iff.1 hK).1).trans hK
    refine ⟨by simp, .inl ⟨_, _, rfl, run_takeDeferred hK2, ?_⟩⟩
    refine ⟨_, results_tmp rfl _ _ _, ?_, (hB.trans (hb2.mono hB.size)).trans (belowK_b (w := w) (Nat.le_refl _) W2 D _ _ (by omega) hK2 rfl rfl)⟩
    rfl
  case stop =>
    rintro _ _ _ _ _ _ h _
    exact h.elim
set_option maxHeartbeats 4000000 in
theorem stackText_no (A0 : Option Addr) (c0 : Nat) (l0 : List Int) (w : World) (hr0 : Kd.C (Kd.int .u8) w A0 l0.length l0) (hc0 : l0.length ≤ c0) (hv : impl_ValidStack.f l0 = some false) :
    Calls Tryz.prog 32 #[.slice A0 l0.length c0] w fun e W' => e = .returned (.string ⟨#[]⟩) ∧ Below w.heap.size w W' := by
  have HV := Aside0.mk hv
  have HR0 := Aside0.mk hr0
  have HC0 := Aside0.mk hc0
  clear hv hr0 hc0
  go_enter Tryz.func32, Tryz.ntmps32
  go_wp2_with (go_at_call 45; refine (impl_ValidStack.calls A0 c0 l0 false _ HR0.out HC0.out HV.out).mono ?_; rintro e w1 ⟨rfl, hb1⟩; have HB1 := Aside0.mk hb1; clear hb1)
  go_ret
  exact ⟨rfl, HB1.out⟩
/-- The text of a stack. -/
def textS (l0 : List Int) : ByteArray := ⟨(Lib.join ((upto (bk l0) l0.length).map fun x => (decS (wrap64 x.2)).data.toList) [58]).toArray⟩
def impl_StackText.f (l0 : List Int) : Option ByteArray := (impl_ValidStack.f l0).bind fun v => if v = true then (if 1 ≤ l0.length then (if l0.length ≤ 8 then some (textS l0) else none) else none) else some ⟨#[]⟩
theorem impl_StackText.calls (A0 : Option Addr) (c0 : Nat) (l0 : List Int) (r : ByteArray) (w : World) (hr0 : Kd.C (Kd.int .u8) w A0 l0.length l0) (hc0 : l0.length ≤ c0) (h : impl_StackText.f l0 = some r) (htab : Tab w) :
    Calls Tryz.prog 32 #[.slice A0 l0.length c0] w fun e w' => e = .returned (.string r) ∧ Below w.heap.size w w' := by
  unfold impl_StackText.f at h
  replace h := Option.bind_eq_some_iff.mp h
  obtain ⟨v, hv, h⟩ := h
  cases v with
  | false =>
    rw [if_neg (by decide)] at h
    obtain rfl := Option.some.inj h
    exact stackText_no A0 c0 l0 w hr0 hc0 hv
  | true =>
    rw [if_pos rfl] at h
    split at h
    · rename_i h1
      split at h
      · rename_i h8
        obtain rfl := Option.some.inj h
        exact (Go.callsIn_wide (n := 3)).1 (stackText_in 3 (Nat.le_refl _) A0 c0 l0 w hr0 hc0 htab hv h1 h8)
      · cases h
    · cases h
end Go.Proofs.YtdgillfbdlmloaaGreatDoor.P
