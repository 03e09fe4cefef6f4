/- Contracts of functions that the print does not take: the complement of digits. -/
import Derived.Test.YtmmplpflbflekaaGivB
import Derived.IntWalk
namespace Go.Proofs.Ytmmplpflbflekaa.P
open Go.RowKit Go.Proofs.YtmmplpflbflekaaW.PrintWords Go.Proofs.YtmmplpflbflekaaW.PrintLast Go.Proofs.YtmmplpflbflekaaW.PrintMore
set_option linter.unusedVariables false
set_option linter.unusedSimpArgs false
/-- Each digit of a wheel turned over. -/
def compL : List Int → List Int → List Int
  | [], d => d
  | _ :: _, [] => []
  | b :: l, n :: d => (b - 1 - n) % 256 :: compL l d
theorem compL_len (l d : List Int) : (compL l d).length = d.length := by
  induction l generalizing d with
  | nil => rfl
  | cons b l ih =>
    cases d with
    | nil => rfl
    | cons n d => simp [compL, ih]
theorem compL_get (l d : List Int) (x : Nat) (h1 : x < l.length) (h2 : x < d.length) : (compL l d).getD x 0 = (l.getD x 0 - 1 - d.getD x 0) % 256 := by
  induction l generalizing d x with
  | nil => simp at h1
  | cons b l ih =>
    cases d with
    | nil => simp at h2
    | cons n d =>
      cases x with
      | zero => rfl
      | succ x =>
        have := ih d x (by simpa using h1) (by simpa using h2)
        simpa [compL] using this
theorem compL_drop (l d : List Int) (x : Nat) (h : l.length ≤ x) : (compL l d).drop x = d.drop x := by
  induction l generalizing d x with
  | nil => rfl
  | cons b l ih =>
    cases d with
    | nil => rfl
    | cons n d =>
      cases x with
      | zero => simp at h
      | succ x => simpa [compL] using ih d x (by simpa using h)
theorem rd_of_drop (o d : List Int) (x : Int) (h : o.drop x.toNat = d.drop x.toNat) : rd o x = rd d x := by
  have : (o.drop x.toNat).getD 0 0 = (d.drop x.toNat).getD 0 0 := by rw [h]
  simpa [rd, List.getD] using this
theorem drop_set_next (o d : List Int) (x v : Int) (h0 : 0 ≤ x) (h : o.drop x.toNat = d.drop x.toNat) : (o.set x.toNat v).drop (x + 1).toNat = d.drop (x + 1).toNat := by
  have e : (x + 1).toNat = x.toNat + 1 := by omega
  rw [e, List.drop_set_of_lt (by omega), ← List.drop_drop, h, List.drop_drop]
theorem take_set_next (o c : List Int) (x : Int) (h0 : 0 ≤ x) (h1 : x < o.length) (h2 : o.length = c.length) (h : o.take x.toNat = c.take x.toNat) : (o.set x.toNat (c.getD x.toNat 0)).take (x + 1).toNat = c.take (x + 1).toNat :=
  take_set o c x h0 h1 h2 h
theorem comp_done (l d o : List Int) (x : Int) (h0 : (l.length : Int) ≤ x) (h1 : o.take x.toNat = (compL l d).take x.toNat) (h2 : o.drop x.toNat = d.drop x.toNat) : o = compL l d := by
  rw [← List.take_append_drop x.toNat o, ← List.take_append_drop x.toNat (compL l d), h1, h2, compL_drop l d x.toNat (by omega)]
set_option maxHeartbeats 8000000 in
set_option maxRecDepth 100000 in
theorem complement_yes (A0 : Option Addr) (c0 : Nat) (l0 d : List Int) (hd : d.length = 8) (hl : l0.length ≤ 8) (w : World) (hr0 : Kd.C (Kd.int .u8) w A0 l0.length l0) (hc0 : l0.length ≤ c0)
    (hv : ∀ w1, Kd.C (Kd.int .u8) w1 A0 l0.length l0 → Calls Try.prog 27 #[.slice A0 l0.length c0, .agg (u8s d)] w1 fun e w' => e = .returned (.bool true) ∧ Below w1.heap.size w1 w') :
    Calls Try.prog 31 #[.slice A0 l0.length c0, .agg (u8s d)] w fun e w' => e = .returned (.tuple #[.agg (u8s (compL l0 d)), .int .i64 0]) ∧ Below w.heap.size w w' := by
  have HD := Aside0.mk hd
  have H8 := Aside0.mk hl
  have HR0 := Aside0.mk hr0
  have HC0 := Aside0.mk hc0
  have HI := Aside0.mk (info_u8 d hd)
  have HV := Aside0.mk hv
  have HB0 := Aside0.mk (blk_alloc (blk_new w (.cells (u8s d) 35)) (.cells #[.int .u8 0, .int .u8 0, .int .u8 0, .int .u8 0, .int .u8 0, .int .u8 0, .int .u8 0, .int .u8 0] 35))
  have hb1 := blk_new (w.alloc (.cells (u8s d) 35)) (.cells #[.int .u8 0, .int .u8 0, .int .u8 0, .int .u8 0, .int .u8 0, .int .u8 0, .int .u8 0, .int .u8 0] 35)
  rw [World.size_alloc] at hb1
  have HB1 := Aside0.mk hb1
  clear hd hr0 hc0 hv hl hb1
  go_enter Try.func31, Try.ntmps31
  go_wp2_with (first | (go_at_call 27; refine (HV.out _ ?sz).mono ?_; (case sz => repeat (first | exact HR0.out | (with_reducible refine Kd.C_alloc ?_ _) | (with_reducible refine Kd.C_drewN ?_ _) | (with_reducible refine Kd.C_drew ?_))); rintro e w1 ⟨rfl, hbel⟩; have HBEL := Aside0.mk hbel; clear hbel; have HC1 := Aside0.mk (blk_below HB0.out HBEL.out); have HC2 := Aside0.mk (blk_below HB1.out HBEL.out); have HW1 := Aside0.mk ((below_alloc (below_alloc (Below.refl w.heap.size w) _) _).trans (HBEL.out.mono (by simp; omega)))) | (refine wpList_load_row rfl 35 (.tmp 3) rfl w.heap.size rfl 35 (u8s d) (0, 0) _ HB0.out Try.underlying35 rfl HI.out ?_))
  go_loopg [15] l0.length (fun kq vx w' => ∃ (x : Int) (o : List Int), vx = .int .i64 x ∧ Aside0 (0 ≤ x ∧ x + kq = l0.length ∧ o.length = 8 ∧ o.take x.toNat = (compL l0 d).take x.toNat ∧ o.drop x.toNat = d.drop x.toNat) ∧ Aside0 (Below w.heap.size w w') ∧ Aside0 (w'.heap[w.heap.size]? = some (.cells (u8s o) 35 (0, 0))) ∧ Aside0 (w'.heap[w.heap.size + 1]? = some (.cells #[.int .u8 0, .int .u8 0, .int .u8 0, .int .u8 0, .int .u8 0, .int .u8 0, .int .u8 0, .int .u8 0] 35 (0, 0))))
  case atStart => exact ⟨0, d, rfl, ⟨by omega, by omega, HD.out, by simp, rfl⟩, HW1, HC1, HC2⟩
  case round =>
    clear HW1 HC1 HC2 HBEL HB0 HB1 HV
    obtain ⟨x, o, rfl, HX, HW, H0, H1⟩ := hrel
    cases gk with
    | zero =>
      have hx := HX.out
      have hb : decide (x < (l0.length : Int)) = false := decide_eq_false (by omega)
      have he : o = compL l0 d := comp_done l0 d o x (by omega) hx.2.2.2.1 hx.2.2.2.2
      subst he
      have hlen : (compL l0 d).length = 8 := hx.2.2.1
      have Hlen := Aside0.mk hlen
      clear hx HX hlen
      have HI2 := Aside0.mk (info_u8 (compL l0 d) Hlen.out)
      have HO := Aside0.mk (show (#[.int .u8 0, .int .u8 0, .int .u8 0, .int .u8 0, .int .u8 0, .int .u8 0, .int .u8 0, .int .u8 0] : Array Value).size = (u8s (compL l0 d)).size by rw [u8s_size, Hlen.out]; rfl)
      go_wp2_with (first | (refine wpList_load_row rfl 35 (.tmp 3) rfl w.heap.size rfl 35 (u8s (compL l0 d)) (0, 0) _ H0.out Try.underlying35 rfl HI2.out ?_) | (refine wpList_store_row rfl 35 (.tmp 4) (.tmp 29) rfl (w.heap.size + 1) (u8s (compL l0 d)) rfl rfl 35 _ H1.out HI2.out HO.out (u8s_one _) ?_))
      refine bodyPost_ret (v := .tuple #[.agg (u8s (compL l0 d)), .int .i64 0]) (results_list (vs := [.agg (u8s (compL l0 d)), .int .i64 0]) rfl (by simp) (.cell (w.heap.size + 1) 35 (u8s (compL l0 d)) (0, 0) _ rfl (setRow_heap _ _ _ _ _ _ H1.out) Try.underlying35 rfl HI2.out (.tmp .nil))) rfl ⟨rfl, ?_⟩
      exact below_setRow HW.out (by omega) _
    | succ k1 =>
      have hx := HX.out
      have h8 := H8.out
      have p1 : 0 ≤ x := hx.1
      have q1 : x < (l0.length : Int) := by omega
      have q8 : x < 8 := by omega
      have hb : decide (x < (l0.length : Int)) = true := decide_eq_true q1
      have hrdo := rd_of_drop o d x hx.2.2.2.2
      have hcd := blk_u8 H0.out x p1 (by omega)
      rw [hrdo] at hcd
      have hfd := blk_frozen H0.out x.toNat
      obtain ⟨ad, e, hcs⟩ := Kd.at_int (Kd.C_below HR0.out HW.out) x p1 q1
      cases e
      have hval : (rd l0 x - 1 - rd d x) % 256 = (compL l0 d).getD x.toNat 0 := by
        rw [compL_get l0 d x.toNat (by omega) (by have := HD.out; omega)]
        rfl
      have hw : wrap64 (x + 1) = x + 1 := Go.IntWalk.wrap64_in _ (by omega)
      have HN := Aside0.mk (show 0 ≤ wrap64 (x + 1) ∧ wrap64 (x + 1) + k1 = l0.length ∧ (o.set x.toNat ((rd l0 x - 1 - rd d x) % 256)).length = 8 ∧ (o.set x.toNat ((rd l0 x - 1 - rd d x) % 256)).take (wrap64 (x + 1)).toNat = (compL l0 d).take (wrap64 (x + 1)).toNat ∧ (o.set x.toNat ((rd l0 x - 1 - rd d x) % 256)).drop (wrap64 (x + 1)).toNat = d.drop (wrap64 (x + 1)).toNat by
        rw [hw, hval]
        exact ⟨by omega, by omega, by rw [List.length_set]; omega, take_set_next o (compL l0 d) x p1 (by omega) (by rw [compL_len]; have := HD.out; omega) hx.2.2.2.1, drop_set_next o d x _ p1 hx.2.2.2.2⟩)
      clear hx hw HX hrdo hval h8
      replace p1 := eq_true p1
      replace q1 := eq_true q1
      replace q8 := eq_true q8
      go_wp2
      go_roundg k1
      case measure => omega
      case rel => exact ⟨wrap64 (x + 1), o.set x.toNat ((rd l0 x - 1 - rd d x) % 256), rfl, HN, ⟨below_set HW.out (Nat.le_refl _)⟩, ⟨blk_u8_set H0.out _ _⟩, ⟨blk_far H1.out (show w.heap.size + 1 ≠ w.heap.size by omega) _⟩⟩
set_option maxHeartbeats 8000000 in
set_option maxRecDepth 100000 in
theorem complement_no (A0 : Option Addr) (c0 : Nat) (l0 d : List Int) (hd : d.length = 8) (w : World) (hr0 : Kd.C (Kd.int .u8) w A0 l0.length l0) (hc0 : l0.length ≤ c0)
    (hv : ∀ w1, Kd.C (Kd.int .u8) w1 A0 l0.length l0 → Calls Try.prog 27 #[.slice A0 l0.length c0, .agg (u8s d)] w1 fun e w' => e = .returned (.bool false) ∧ Below w1.heap.size w1 w') :
    Calls Try.prog 31 #[.slice A0 l0.length c0, .agg (u8s d)] w fun e w' => e = .returned (.tuple #[.agg (u8s [0, 0, 0, 0, 0, 0, 0, 0]), .int .i64 1]) ∧ Below w.heap.size w w' := by
  have HR0 := Aside0.mk hr0
  have HC0 := Aside0.mk hc0
  have HI := Aside0.mk (info_u8 d hd)
  have HV := Aside0.mk hv
  have HB0 := Aside0.mk (blk_alloc (blk_new w (.cells (u8s d) 35)) (.cells #[.int .u8 0, .int .u8 0, .int .u8 0, .int .u8 0, .int .u8 0, .int .u8 0, .int .u8 0, .int .u8 0] 35))
  have hb1 := blk_new (w.alloc (.cells (u8s d) 35)) (.cells #[.int .u8 0, .int .u8 0, .int .u8 0, .int .u8 0, .int .u8 0, .int .u8 0, .int .u8 0, .int .u8 0] 35)
  rw [World.size_alloc] at hb1
  have HB1 := Aside0.mk hb1
  have HI2 := Aside0.mk (info_u8 [0, 0, 0, 0, 0, 0, 0, 0] rfl)
  clear hd hr0 hc0 hv hb1
  go_enter Try.func31, Try.ntmps31
  go_wp2_with (first | (go_at_call 27; refine (HV.out _ ?sz).mono ?_; (case sz => repeat (first | exact HR0.out | (with_reducible refine Kd.C_alloc ?_ _) | (with_reducible refine Kd.C_drewN ?_ _) | (with_reducible refine Kd.C_drew ?_))); rintro e w1 ⟨rfl, hbel⟩; have HBEL := Aside0.mk hbel; clear hbel; have HC2 := Aside0.mk (blk_below HB1.out HBEL.out); have HW1 := Aside0.mk ((below_alloc (below_alloc (Below.refl w.heap.size w) _) _).trans (HBEL.out.mono (by simp; omega)))) | (refine wpList_load_row rfl 35 (.tmp 3) rfl w.heap.size rfl 35 (u8s d) (0, 0) _ HB0.out Try.underlying35 rfl HI.out ?_) | (refine wpList_store_row rfl 35 (.tmp 4) (.tmp 12) rfl (w.heap.size + 1) (u8s [0, 0, 0, 0, 0, 0, 0, 0]) rfl rfl 35 _ HC2.out HI2.out rfl (u8s_one _) ?_))
  refine bodyPost_ret (v := .tuple #[.agg (u8s [0, 0, 0, 0, 0, 0, 0, 0]), .int .i64 1]) (results_list (vs := [.agg (u8s [0, 0, 0, 0, 0, 0, 0, 0]), .int .i64 1]) rfl (by simp) (.cell (w.heap.size + 1) 35 (u8s [0, 0, 0, 0, 0, 0, 0, 0]) (0, 0) _ rfl (setRow_heap _ _ _ _ _ _ HC2.out) Try.underlying35 rfl HI2.out (.tmp .nil))) rfl ⟨rfl, ?_⟩
  exact below_setRow HW1.out (by omega) _
end Go.Proofs.Ytmmplpflbflekaa.P
