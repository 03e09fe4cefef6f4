/- Contracts of functions that the print does not take: the digits that an eye reads, as the program reads them. -/
import Derived.Test.YtcapjgjjaolofaaEyeS
namespace Go.Proofs.Ytcapjgjjaolofaa.P
open Go.RowKit Go.Proofs.YtcapjgjjaolofaaW.PrintWords Go.Proofs.YtcapjgjjaolofaaW.PrintLast Go.Proofs.YtcapjgjjaolofaaW.PrintMore
set_option linter.unusedVariables false
set_option linter.unusedSimpArgs false
set_option maxHeartbeats 8000000 in
set_option maxRecDepth 100000 in
theorem read_list (g : Nat) (A0 : Option Addr) (c0 : Nat) (l : List Int) (A1 : Option Addr) (c1 : Nat) (js : List S88) (d : List Int) (hd : d.length = 8) (h8 : l.length ≤ 8) (hnz : ∀ b ∈ l, 2 ≤ b ∧ b ≤ 100) (eye : Int) (W : World) (hg : MotP W g A0 c0 l A1 c1 js) (hr0 : Kd.C (Kd.int .u8) W A0 l.length l) :
    Calls Try.prog 83 #[.pointer (some ⟨g, 0, none⟩), .agg (i64s d), .int .i64 eye] W fun e w' => e = .returned (.agg (u8s (readL (rdI eye) l d))) ∧ Below W.heap.size W w' := by
  obtain ⟨f1, f2, f3, f4⟩ := eW_facts W d
  have HD := Aside0.mk hd
  have H8 := Aside0.mk h8
  have HG := Aside0.mk hg
  have HR0 := Aside0.mk hr0
  have F1 := Aside0.mk f1
  have F2 := Aside0.mk f2
  have F3 := Aside0.mk f3
  have F4 := Aside0.mk f4
  have hcE : (((W.alloc (.cells (i64s d) 55)).alloc (.cells #[.int .u8 0, .int .u8 0, .int .u8 0, .int .u8 0, .int .u8 0, .int .u8 0, .int .u8 0, .int .u8 0] 29)).alloc (.cells #[.int .u8 0, .int .u8 0, .int .u8 0, .int .u8 0, .int .u8 0, .int .u8 0, .int .u8 0, .int .u8 0] 29)).cell? ⟨g, 0, none⟩ = some (.slice A0 l.length c0) := (blk_cell (blk_below HG.out F4.out) 0).trans rfl
  clear hd h8 hg hr0 f1 f2 f3 f4
  go_enter Try.func83, Try.ntmps83
  go_wp2
  go_loopg [17] l.length (fun kq v17 w' => ∃ (x : Int) (o : List Int), v17 = .int .i64 x ∧ Aside0 (0 ≤ x ∧ x + kq = l.length ∧ o.length = 8 ∧ o.take x.toNat = (readL (rdI eye) l d).take x.toNat ∧ o.drop x.toNat = ([0, 0, 0, 0, 0, 0, 0, 0] : List Int).drop x.toNat) ∧ Aside0 (Below W.heap.size W w') ∧ Aside0 (w'.heap[W.heap.size]? = some (.cells (i64s d) 55 (0, 0))) ∧ Aside0 (w'.heap[W.heap.size + 1]? = some (.cells (u8s [0, 0, 0, 0, 0, 0, 0, 0]) 29 (0, 0))) ∧ Aside0 (w'.heap[W.heap.size + 1 + 1]? = some (.cells (u8s o) 29 (0, 0))))
  case atStart => exact ⟨0, [0, 0, 0, 0, 0, 0, 0, 0], rfl, ⟨by omega, by omega, rfl, rfl, rfl⟩, F4, F1, F2, F3⟩
  case round =>
    clear F1 F2 F3 F4
    obtain ⟨x, o, rfl, HX, HW, H0, H1, H2⟩ := hrel
    have hcA : wr.cell? ⟨g, 0, none⟩ = some (.slice A0 l.length c0) := (blk_cell (blk_below HG.out HW.out) 0).trans rfl
    cases gk with
    | zero =>
      have p1 := HX.out.1
      have q1 : ¬ x < (l.length : Int) := by have := HX.out.2.1; omega
      have hq : decide (x < (l.length : Int)) = false := decide_eq_false q1
      have hd : o = readL (rdI eye) l d := read_done _ l d o HD.out x (by omega) HX.out.2.2.2.1 HX.out.2.2.2.2
      subst hd
      have HO := Aside0.mk (show (readL (rdI eye) l d).length = 8 by rw [readL_len, HD.out])
      have HI8 := Aside0.mk (info_u8 (readL (rdI eye) l d) HO.out)
      clear HX
      have HS := Aside0.mk (show (u8s [0, 0, 0, 0, 0, 0, 0, 0]).size = (u8s (readL (rdI eye) l d)).size by rw [u8s_size, u8s_size, HO.out]; rfl)
      go_wp2_with (first | (refine wpList_load_row rfl 29 (.tmp 7) rfl (W.heap.size + 1 + 1) rfl 29 (u8s (readL (rdI eye) l d)) (0, 0) _ H2.out Try.underlying29 rfl HI8.out ?_) | (refine wpList_store_row rfl 29 (.tmp 6) (.tmp 38) rfl (W.heap.size + 1) (u8s (readL (rdI eye) l d)) rfl rfl 29 (u8s [0, 0, 0, 0, 0, 0, 0, 0]) H1.out HI8.out HS.out (u8s_one _) ?_))
      refine bodyPost_ret (results_single rfl (.cell (W.heap.size + 1) 29 (u8s (readL (rdI eye) l d)) (0, 0) _ rfl (setRow_heap _ _ (u8s [0, 0, 0, 0, 0, 0, 0, 0]) _ _ _ H1.out) Try.underlying29 rfl HI8.out .nil)) rfl ⟨rfl, ?_⟩
      exact below_setRow HW.out (by omega) _
    | succ k1 =>
      have hx := HX.out
      have h8 := H8.out
      have HX' := HX
      have p1 : 0 ≤ x := hx.1
      have q1 : x < (l.length : Int) := by omega
      have q8 : x < 8 := by omega
      have hb : decide (x < (l.length : Int)) = true := decide_eq_true q1
      have hcp := blk_i64 H0.out x p1 (by have := HD.out; omega)
      have hfo := blk_frozen H2.out x.toNat
      have hco := blk_u8 H2.out x p1 (by omega)
      obtain ⟨ad, e, hcs⟩ := Kd.at_int (Kd.C_below HR0.out HW.out) x p1 q1
      cases e
      have hmem : rd l x ∈ l := by
        simp [rd, List.getD, List.getElem?_eq_getElem (show x.toNat < l.length by omega)]
      have hbb := hnz _ hmem
      have hwb : wrap64 (rd l x) = rd l x := Go.IntWalk.wrap64_in _ (by omega)
      have hz0 : ¬ wrap64 (rd l x) = 0 := by rw [hwb]; omega
      have hz1 : (wrap64 (rd l x) == 0) = false := beq_eq_false_iff_ne.mpr hz0
      have hz2 : (wrap64 (rd l x) != 0) = true := bne_iff_ne.mpr hz0
      have hw : wrap64 (x + 1) = x + 1 := Go.IntWalk.wrap64_in _ (by omega)
      have hd := HD.out
      by_cases he : eye = 1
      · have he1 : (eye == 1) = true := by simpa using he
        have HF := Aside0.mk (show rdI eye (rd l x) (rd d x) = (wrap64 ((wrap64 (rd d x + 500)).tdiv 1000)).tmod (wrap64 (rd l x)) % 256 by rw [rdI, if_pos he])
        obtain ⟨rv, hrv⟩ : ∃ rv, rdI eye (rd l x) (rd d x) = rv := ⟨_, rfl⟩
        have HN := Aside0.mk (show 0 ≤ wrap64 (x + 1) ∧ wrap64 (x + 1) + k1 = l.length ∧ (o.set x.toNat rv).length = 8 ∧ (o.set x.toNat rv).take (wrap64 (x + 1)).toNat = (readL (rdI eye) l d).take (wrap64 (x + 1)).toNat ∧ (o.set x.toNat rv).drop (wrap64 (x + 1)).toNat = ([0, 0, 0, 0, 0, 0, 0, 0] : List Int).drop (wrap64 (x + 1)).toNat by
          rw [hw, ← read_at (rdI eye) l d x rv p1 q1 (by omega) hrv]
          exact ⟨by omega, by omega, by rw [List.length_set]; omega, take_set_nextR o (readL (rdI eye) l d) x p1 (by omega) (by rw [readL_len]; omega) hx.2.2.2.1, drop_set_nextR o _ x _ p1 hx.2.2.2.2⟩)
        rw [HF.out] at hrv
        subst hrv
        clear he hx hw HX HX' h8 hbb hwb hmem hnz hd
        replace p1 := eq_true p1
        replace q1 := eq_true q1
        replace q8 := eq_true q8
        go_wp2
        go_roundg k1
        case measure => omega
        case rel => exact ⟨wrap64 (x + 1), _, rfl, HN, ⟨below_set (by repeat (first | exact HW.out | apply below_drew1 | apply pw_below_drewN)) (by omega)⟩, ⟨blk_far (by repeat (first | exact H0.out | (with_reducible refine blk_drew ?_) | (with_reducible refine blk_drewN ?_ _))) (show W.heap.size ≠ W.heap.size + 1 + 1 by omega) _⟩, ⟨blk_far (by repeat (first | exact H1.out | (with_reducible refine blk_drew ?_) | (with_reducible refine blk_drewN ?_ _))) (show W.heap.size + 1 ≠ W.heap.size + 1 + 1 by omega) _⟩, ⟨blk_u8_set (by repeat (first | exact H2.out | (with_reducible refine blk_drew ?_) | (with_reducible refine blk_drewN ?_ _))) _ _⟩⟩
      · have he1 : (eye == 1) = false := by simpa using he
        have HF := Aside0.mk (show rdI eye (rd l x) (rd d x) = (wrap64 ((rd d x).tdiv 1000)).tmod (wrap64 (rd l x)) % 256 by rw [rdI, if_neg he])
        obtain ⟨rv, hrv⟩ : ∃ rv, rdI eye (rd l x) (rd d x) = rv := ⟨_, rfl⟩
        have HN := Aside0.mk (show 0 ≤ wrap64 (x + 1) ∧ wrap64 (x + 1) + k1 = l.length ∧ (o.set x.toNat rv).length = 8 ∧ (o.set x.toNat rv).take (wrap64 (x + 1)).toNat = (readL (rdI eye) l d).take (wrap64 (x + 1)).toNat ∧ (o.set x.toNat rv).drop (wrap64 (x + 1)).toNat = ([0, 0, 0, 0, 0, 0, 0, 0] : List Int).drop (wrap64 (x + 1)).toNat by
          rw [hw, ← read_at (rdI eye) l d x rv p1 q1 (by omega) hrv]
          exact ⟨by omega, by omega, by rw [List.length_set]; omega, take_set_nextR o (readL (rdI eye) l d) x p1 (by omega) (by rw [readL_len]; omega) hx.2.2.2.1, drop_set_nextR o _ x _ p1 hx.2.2.2.2⟩)
        rw [HF.out] at hrv
        subst hrv
        clear he hx hw HX HX' h8 hbb hwb hmem hnz hd
        replace p1 := eq_true p1
        replace q1 := eq_true q1
        replace q8 := eq_true q8
        go_wp2
        go_roundg k1
        case measure => omega
        case rel => exact ⟨wrap64 (x + 1), _, rfl, HN, ⟨below_set (by repeat (first | exact HW.out | apply below_drew1 | apply pw_below_drewN)) (by omega)⟩, ⟨blk_far (by repeat (first | exact H0.out | (with_reducible refine blk_drew ?_) | (with_reducible refine blk_drewN ?_ _))) (show W.heap.size ≠ W.heap.size + 1 + 1 by omega) _⟩, ⟨blk_far (by repeat (first | exact H1.out | (with_reducible refine blk_drew ?_) | (with_reducible refine blk_drewN ?_ _))) (show W.heap.size + 1 ≠ W.heap.size + 1 + 1 by omega) _⟩, ⟨blk_u8_set (by repeat (first | exact H2.out | (with_reducible refine blk_drew ?_) | (with_reducible refine blk_drewN ?_ _))) _ _⟩⟩
end Go.Proofs.Ytcapjgjjaolofaa.P
