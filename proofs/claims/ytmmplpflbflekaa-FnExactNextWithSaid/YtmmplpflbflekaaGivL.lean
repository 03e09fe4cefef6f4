/- The value of digits, as the program reckons it: a range over slices.Backward. -/
import Derived.Test.YtmmplpflbflekaaGivK
import Derived.Test.YtmmplpflbflekaaGivW
import Derived.Shelf.RegionOpen
namespace Go.Proofs.Ytmmplpflbflekaa.P
open Go.RowKit Go.Shelf Go.Proofs.YtmmplpflbflekaaW.PrintWords Go.Proofs.YtmmplpflbflekaaW.PrintLast Go.Proofs.YtmmplpflbflekaaW.PrintMore
attribute [local go_sem] Oper.semAt_some
set_option linter.unusedVariables false
set_option linter.unusedSimpArgs false
/-- A wheel of eight at most, and its base. -/
abbrev W8 := { x : Int × Int // 0 ≤ x.1 ∧ x.1 < 8 }
def bk8 (l : List Int) (k : Nat) : W8 := if h : 0 ≤ (bk l k).1 ∧ (bk l k).1 < 8 then ⟨bk l k, h⟩ else ⟨(0, 0), by decide⟩
theorem bk8_eq (l : List Int) (h8 : l.length ≤ 8) (k : Nat) (hk : k < l.length) : (bk8 l k).1 = bk l k := by
  unfold bk8
  rw [dif_pos (by simp [bk]; omega)]
/-- What has been reckoned when these have come. -/
def valF (d : List Int) : List W8 → Int := List.foldl (fun n x => wrap64 (wrap64 (n * wrap64 x.1.2) + wrap64 (rd d x.1.1))) 0
theorem valF_snoc (d : List Int) (pre : List W8) (x : W8) : valF d (pre ++ [x]) = wrap64 (wrap64 (valF d pre * wrap64 x.1.2) + wrap64 (rd d x.1.1)) := by simp [valF]
set_option maxRecDepth 100000 in
set_option maxHeartbeats 4000000 in
theorem value_in (F : Fence) (n : Nat) (h3 : F.fn 63) (h5 : F.fn 69) (h7 : F.fn 71) (hro : F.round = none) (hn : 3 ≤ n) (A0 : Option Addr) (c0 : Nat) (l0 d : List Int) (hd : d.length = 8) (h8 : l0.length ≤ 8) (w : World) (hr0 : Kd.C (Kd.int .u8) w A0 l0.length l0) :
    CallsIn F n Try.prog 63 #[.slice A0 l0.length c0, .agg (u8s d)] w fun e W' => e = .returned (.int .i64 (valF d (upto (bk8 l0) l0.length))) ∧ Below w.heap.size w W' := by
  have h1 : 1 ≤ n := by omega
  refine callsIn_of_wp_marks Try.func63 rfl h3 ?_ hro
  simp only [Try.ntmps63, List.size_toArray, List.length_cons, List.length_nil, Nat.reduceAdd, Nat.reduceSub, Array.replicate_succ, Array.replicate_zero, List.push_toArray, List.append_toArray, List.nil_append, List.cons_append]
  gi_wp2_with (gi_at_call 69; refine (bk_in F (n - 1) h5 hro _ _ _ _).mono ?_; rintro e w' ⟨rfl, rfl⟩)
  have hD0 := blk_new w (.cells (u8s d) 35)
  have bN := Boxed.new ((w.alloc (.cells (u8s d) 35)).alloc (.cells #[.int .i64 0] 2)) 24 (.slice A0 l0.length c0)
  have bO := Boxed.new (w.alloc (.cells (u8s d) 35)) 2 (.int .i64 0)
  simp only [World.size_alloc] at bN bO
  have hB0 : Below w.heap.size w (((w.alloc (.cells (u8s d) 35)).alloc (.cells #[.int .i64 0] 2)).alloc (.cells #[.slice A0 l0.length c0] 24)) := (((Below.refl _ w).alloc (Nat.le_refl _) _).alloc (by simp) _).alloc (by simp; omega) _
  refine wpIn_rangeFunc_ownG hro h1 (gf := 71) (lb := #[.pointer (some ⟨w.heap.size + 1 + 1, 0, none⟩)]) rfl h7 (enters_of Try.func71 (by kernel_rfl) rfl)
    (bk_stops (fun x : W8 => x.1) (bk8 l0) F (n - 1) h7 hro (by omega) (w.heap.size + 1 + 1) A0 c0 l0 (fun k hk => bk8_eq l0 h8 k hk) w hr0 _ hB0 (by simp) bN.cell) KB_t (KB_b (by simp; omega) (by simp)) (Below.refl _ _) (fun _ => rfl)
    (fun pre W => ((W.cell? ⟨w.heap.size + 1, 0, none⟩ = some (.int .i64 (valF d pre)) ∧ W.frozen? ⟨w.heap.size + 1, 0, none⟩ = false) ∧ (∀ j : Nat, j < 8 → W.cell? ⟨w.heap.size, j, none⟩ = some (.int .u8 (d.getD j 0)))) ∧ Below w.heap.size w W)
    (fun _ _ _ => False)
    (OwnFrom.and (Own.from (fun s A B row hs hg hr => ⟨⟨cell_kept hs.1.1 hg hr, (frozen_kept hs.1.1 hg hr).trans hs.1.2⟩, fun j hj => cell_kept (hs.2 j hj) hg hr⟩) _) (ownFrom_below (Nat.le_refl _) (by simp; omega)))
    (fun _ _ _ _ _ hs _ _ => hs)
    ⟨⟨⟨(bO.alloc _).cell, (bO.alloc _).frozen⟩, fun j hj => ?digs⟩, hB0⟩
    (fun x => { tmps := #[.slice A0 l0.length c0, .agg (u8s d), undef, .pointer (some ⟨w.heap.size, 0, none⟩), .int .i64 0, .pointer (some ⟨w.heap.size + 1, 0, none⟩), .int .i64 x.1.1, .int .u8 x.1.2, .slice A0 l0.length c0, .func (.func 71) #[] #[.pointer (some ⟨w.heap.size + 1 + 1, 0, none⟩)], .int .i64 x.1.1, .int .u8 x.1.2, undef, undef, undef, undef, undef, undef, undef, undef, undef, undef], defers := [] }) ?assign ?body ?done ?stop
  case digs =>
    refine (blk_cell (blk_alloc (blk_alloc hD0 _) _) j).trans ?_
    exact u8s_get d j (by omega)
  case assign =>
    intro l x W K hK
    gi_wp2
    exact hK
  case body =>
    rintro l pre x W ⟨⟨⟨hc, hf⟩, hds⟩, hB⟩ _
    have p1 : 0 ≤ x.1.1 := x.2.1
    have q1 : x.1.1 < 8 := x.2.2
    have hcd : W.cell? ⟨w.heap.size, x.1.1.toNat, none⟩ = some (.int .u8 (rd d x.1.1)) := hds x.1.1.toNat (by omega)
    have HDS := Aside0.mk hds
    have hmx : Try.prog.follows .mixedOrders = true := by kernel_rfl
    have h2 : 1 ≤ n - 1 - 1 := by omega
    have hv := valF_snoc d pre x
    clear hds hD0 bN bO hB0 hr0 h8 hd h3 h5 h7
    have fin := Aside0.mk (show KeepsFrom (((w.alloc (.cells (u8s d) 35)).alloc (.cells #[.int .i64 0] 2)).alloc (.cells #[.slice A0 l0.length c0] 24)).heap.size W (W.setCell ⟨w.heap.size + 1, 0, none⟩ (.int .i64 (wrap64 (wrap64 (valF d pre * wrap64 x.1.2) + wrap64 (rd d x.1.1))))).drew ∧ KB w.heap.size (w.heap.size + 1 + 1) W (W.setCell ⟨w.heap.size + 1, 0, none⟩ (.int .i64 (wrap64 (wrap64 (valF d pre * wrap64 x.1.2) + wrap64 (rd d x.1.1))))).drew ∧
      ((((W.setCell ⟨w.heap.size + 1, 0, none⟩ (.int .i64 (wrap64 (wrap64 (valF d pre * wrap64 x.1.2) + wrap64 (rd d x.1.1))))).drew.cell? ⟨w.heap.size + 1, 0, none⟩ = some (.int .i64 (valF d (pre ++ [x]))) ∧ (W.setCell ⟨w.heap.size + 1, 0, none⟩ (.int .i64 (wrap64 (wrap64 (valF d pre * wrap64 x.1.2) + wrap64 (rd d x.1.1))))).drew.frozen? ⟨w.heap.size + 1, 0, none⟩ = false) ∧ (∀ j : Nat, j < 8 → (W.setCell ⟨w.heap.size + 1, 0, none⟩ (.int .i64 (wrap64 (wrap64 (valF d pre * wrap64 x.1.2) + wrap64 (rd d x.1.1))))).drew.cell? ⟨w.heap.size, j, none⟩ = some (.int .u8 (d.getD j 0)))) ∧ Below w.heap.size w (W.setCell ⟨w.heap.size + 1, 0, none⟩ (.int .i64 (wrap64 (wrap64 (valF d pre * wrap64 x.1.2) + wrap64 (rd d x.1.1))))).drew) from by
        have ho : ∀ b j v u, b ≠ w.heap.size + 1 → W.cell? ⟨b, j, none⟩ = some v → (W.setCell ⟨w.heap.size + 1, 0, none⟩ u).drew.cell? ⟨b, j, none⟩ = some v := fun b j v u hb hv => by
          show (W.setCell _ u).cell? _ = some v
          rw [World.cell?_setCell_other _ _ _ _ (fun e => hb (congrArg Addr.block e).symm)]
          exact hv
        refine ⟨((KeepsOthers.setCell _ _ _).trans (KeepsOthers.drew _)).from _, ⟨below_drew1 ((Below.refl w.heap.size W).setCell (p := ⟨w.heap.size + 1, 0, none⟩) (by show w.heap.size ≤ w.heap.size + 1; omega) _), fun v hv => ho _ _ _ _ (by omega) hv⟩, ⟨⟨?_, ?_⟩, fun j hj => ho _ _ _ _ (by omega) (HDS.out j hj)⟩, below_drew1 (hB.setCell (p := ⟨w.heap.size + 1, 0, none⟩) (by show w.heap.size ≤ w.heap.size + 1; omega) _)⟩
        · rw [hv]
          exact World.cell?_setCell_same' _ _ _ (by rw [hc]; rfl)
        · exact (World.frozen?_setCell _ _ _ _).trans hf)
    clear hv hB
    gi_wp2
    gi_region_with_o (fail)
    all_goals gi_wp2
    all_goals (try go_bits)
    all_goals exact fin.out
  case done =>
    rintro D ys W hD rfl ⟨⟨⟨hc, _⟩, _⟩, hB⟩ hK
    gi_wp2
    refine ⟨by simp, .inl ⟨_, _, rfl, run_takeDeferred hK, ?_⟩⟩
    exact ⟨_, results_tmp rfl _ _ _, rfl, hB.trans (belowK_b (w := w) (Nat.le_refl _) W D _ _ (by simp at hD; omega) hK rfl rfl)⟩
  case stop =>
    rintro D c pre W _ _ h _
    exact h.elim
end Go.Proofs.Ytmmplpflbflekaa.P
