/- Contracts of functions that the print does not take: the digits that an eye reads. -/
import Derived.Test.YtcapjgjjaolofaaPartsB
namespace Go.Proofs.Ytcapjgjjaolofaa.P
open Go.RowKit Go.Proofs.YtcapjgjjaolofaaW.PrintWords Go.Proofs.YtcapjgjjaolofaaW.PrintLast Go.Proofs.YtcapjgjjaolofaaW.PrintMore
set_option linter.unusedVariables false
set_option linter.unusedSimpArgs false
/-- A digit for each wheel, 0 where no wheel is. -/
def readL (f : Int → Int → Int) : List Int → List Int → List Int
  | _, [] => []
  | [], _ :: p => 0 :: readL f [] p
  | b :: l, n :: p => f b n :: readL f l p
theorem readL_len (f : Int → Int → Int) (l p : List Int) : (readL f l p).length = p.length := by
  induction p generalizing l with
  | nil => cases l <;> rfl
  | cons n p ih => cases l <;> simp [readL, ih]
theorem readL_get (f : Int → Int → Int) (l p : List Int) (x : Nat) (h1 : x < l.length) (h2 : x < p.length) : (readL f l p).getD x 0 = f (l.getD x 0) (p.getD x 0) := by
  induction p generalizing l x with
  | nil => simp at h2
  | cons n p ih =>
    cases l with
    | nil => simp at h1
    | cons b l =>
      cases x with
      | zero => rfl
      | succ x => simpa [readL] using ih l x (by simpa using h1) (by simpa using h2)
theorem readL_drop (f : Int → Int → Int) (l p : List Int) (x : Nat) (h : l.length ≤ x) : (readL f l p).drop x = (List.replicate p.length (0 : Int)).drop x := by
  induction p generalizing l x with
  | nil => cases l <;> rfl
  | cons n p ih =>
    cases l with
    | nil =>
      cases x with
      | zero =>
        have := ih [] 0 (Nat.le_refl 0)
        simp [readL] at this ⊢
        rw [this]
        rfl
      | succ x => simpa [readL, List.replicate_succ] using ih [] x (Nat.zero_le _)
    | cons b l =>
      cases x with
      | zero => simp at h
      | succ x => simpa [readL, List.replicate_succ] using ih l x (by simpa using h)
theorem drop_set_nextR (o d : List Int) (x v : Int) (h0 : 0 ≤ x) (h : o.drop x.toNat = d.drop x.toNat) : (o.set x.toNat v).drop (x + 1).toNat = d.drop (x + 1).toNat := by
  have e : (x + 1).toNat = x.toNat + 1 := by omega
  rw [e, List.drop_set_of_lt (by omega), ← List.drop_drop, h, List.drop_drop]
theorem take_set_nextR (o c : List Int) (x : Int) (h0 : 0 ≤ x) (h1 : x < o.length) (h2 : o.length = c.length) (h : o.take x.toNat = c.take x.toNat) : (o.set x.toNat (c.getD x.toNat 0)).take (x + 1).toNat = c.take (x + 1).toNat :=
  take_set o c x h0 h1 h2 h
theorem read_done (f : Int → Int → Int) (l p o : List Int) (hp : p.length = 8) (x : Int) (h0 : (l.length : Int) ≤ x) (h1 : o.take x.toNat = (readL f l p).take x.toNat) (h2 : o.drop x.toNat = ([0, 0, 0, 0, 0, 0, 0, 0] : List Int).drop x.toNat) : o = readL f l p := by
  rw [← List.take_append_drop x.toNat o, ← List.take_append_drop x.toNat (readL f l p), h1, h2, readL_drop f l p x.toNat (by omega), hp]
  rfl
/-- The three boxes behind the entry. -/
abbrev eW (W : World) (d : List Int) : World := ((W.alloc (.cells (i64s d) 55)).alloc (.cells (u8s [0, 0, 0, 0, 0, 0, 0, 0]) 29)).alloc (.cells (u8s [0, 0, 0, 0, 0, 0, 0, 0]) 29)
theorem eW_facts (W : World) (d : List Int) : (eW W d).heap[W.heap.size]? = some (.cells (i64s d) 55 (0, 0)) ∧ (eW W d).heap[W.heap.size + 1]? = some (.cells (u8s [0, 0, 0, 0, 0, 0, 0, 0]) 29 (0, 0)) ∧ (eW W d).heap[W.heap.size + 1 + 1]? = some (.cells (u8s [0, 0, 0, 0, 0, 0, 0, 0]) 29 (0, 0)) ∧ Below W.heap.size W (eW W d) := by
  refine ⟨blk_alloc (blk_alloc (blk_new W _) _) _, ?_, ?_, below_alloc (below_alloc (below_alloc (Below.refl _ _) _) _) _⟩
  · have := blk_alloc (blk_new (W.alloc (.cells (i64s d) 55)) (.cells (u8s [0, 0, 0, 0, 0, 0, 0, 0]) 29)) (.cells (u8s [0, 0, 0, 0, 0, 0, 0, 0]) 29)
    rw [World.size_alloc] at this
    exact this
  · have := blk_new ((W.alloc (.cells (i64s d) 55)).alloc (.cells (u8s [0, 0, 0, 0, 0, 0, 0, 0]) 29)) (.cells (u8s [0, 0, 0, 0, 0, 0, 0, 0]) 29)
    rw [World.size_alloc, World.size_alloc] at this
    exact this
/-- What the reference reads of a wheel. -/
def rdS (eye b n : Int) : Int := if eye = 1 then (wrap64 ((wrap64 (n + 500)).tdiv 1000)).tmod (wrap64 b) % 256 else wrap64 (n.tdiv 1000) % 256
/-- What the program reads of a wheel. -/
def rdI (eye b n : Int) : Int := if eye = 1 then (wrap64 ((wrap64 (n + 500)).tdiv 1000)).tmod (wrap64 b) % 256 else (wrap64 (n.tdiv 1000)).tmod (wrap64 b) % 256
theorem read_at (f : Int → Int → Int) (l p : List Int) (x v : Int) (h0 : 0 ≤ x) (h1 : x < l.length) (h2 : x < p.length) (h : f (rd l x) (rd p x) = v) : (readL f l p).getD x.toNat 0 = v := by
  rw [readL_get f l p x.toNat (by omega) (by omega)]
  exact h
set_option maxHeartbeats 8000000 in
set_option maxRecDepth 100000 in
theorem reads_list (g : Nat) (A0 : Option Addr) (c0 : Nat) (l : List Int) (A1 : Option Addr) (c1 : Nat) (js : List S88) (d : List Int) (hd : d.length = 8) (h8 : l.length ≤ 8) (hnz : ∀ b ∈ l, 2 ≤ b ∧ b ≤ 100) (eye : Int) (W : World) (hg : MotP W g A0 c0 l A1 c1 js) (hr0 : Kd.C (Kd.int .u8) W A0 l.length l) :
    Calls Try.prog 81 #[.pointer (some ⟨g, 0, none⟩), .agg (i64s d), .int .i64 eye] W fun e w' => e = .returned (.agg (u8s (readL (rdS eye) l d))) ∧ Below W.heap.size W w' := by
  obtain ⟨f1, f2, f3, f4⟩ := eW_facts W d
  have HD := Aside0.mk hd
  have H8 := Aside0.mk h8
  have HG := Aside0.mk hg
  have HR0 := Aside0.mk hr0
  have F1 := Aside0.mk f1
  have F2 := Aside0.mk f2
  have F3 := Aside0.mk f3
  have F4 := Aside0.mk f4
  clear hd h8 hg hr0 f1 f2 f3 f4
  go_enter Try.func81, Try.ntmps81
  go_wp2
  go_loopg [8] l.length (fun kq v8 w' => ∃ (x : Int) (o : List Int), v8 = .int .i64 x ∧ Aside0 (0 ≤ x ∧ x + kq = l.length ∧ o.length = 8 ∧ o.take x.toNat = (readL (rdS eye) l d).take x.toNat ∧ o.drop x.toNat = ([0, 0, 0, 0, 0, 0, 0, 0] : List Int).drop x.toNat) ∧ Aside0 (Below W.heap.size W w') ∧ Aside0 (w'.heap[W.heap.size]? = some (.cells (i64s d) 55 (0, 0))) ∧ Aside0 (w'.heap[W.heap.size + 1]? = some (.cells (u8s [0, 0, 0, 0, 0, 0, 0, 0]) 29 (0, 0))) ∧ Aside0 (w'.heap[W.heap.size + 1 + 1]? = some (.cells (u8s o) 29 (0, 0))))
  case atStart => exact ⟨0, [0, 0, 0, 0, 0, 0, 0, 0], rfl, ⟨by omega, by omega, rfl, rfl, rfl⟩, F4, F1, F2, F3⟩
  case round =>
    clear F1 F2 F3 F4
    obtain ⟨x, o, rfl, HX, HW, H0, H1, H2⟩ := hrel
    have hcA : wr.cell? ⟨g, 0, none⟩ = some (.slice A0 l.length c0) := (blk_cell (blk_below HG.out HW.out) 0).trans rfl
    cases gk with
    | zero =>
      have p1 := HX.out.1
      have q1 : ¬ x < (l.length : Int) := by have := HX.out.2.1; omega
      have hq : decide (x < (l.length : Int)) = false := decide_eq_false q1
      have hd : o = readL (rdS eye) l d := read_done _ l d o HD.out x (by omega) HX.out.2.2.2.1 HX.out.2.2.2.2
      subst hd
      have HO := Aside0.mk (show (readL (rdS eye) l d).length = 8 by rw [readL_len, HD.out])
      have HI8 := Aside0.mk (info_u8 (readL (rdS eye) l d) HO.out)
      clear HX
      have HS := Aside0.mk (show (u8s [0, 0, 0, 0, 0, 0, 0, 0]).size = (u8s (readL (rdS eye) l d)).size by rw [u8s_size, u8s_size, HO.out]; rfl)
      go_wp2_with (first | (refine wpList_load_row rfl 29 (.tmp 7) rfl (W.heap.size + 1 + 1) rfl 29 (u8s (readL (rdS eye) l d)) (0, 0) _ H2.out Try.underlying29 rfl HI8.out ?_) | (refine wpList_store_row rfl 29 (.tmp 6) (.tmp 44) rfl (W.heap.size + 1) (u8s (readL (rdS eye) l d)) rfl rfl 29 (u8s [0, 0, 0, 0, 0, 0, 0, 0]) H1.out HI8.out HS.out (u8s_one _) ?_))
      refine bodyPost_ret (results_single rfl (.cell (W.heap.size + 1) 29 (u8s (readL (rdS eye) l d)) (0, 0) _ rfl (setRow_heap _ _ (u8s [0, 0, 0, 0, 0, 0, 0, 0]) _ _ _ H1.out) Try.underlying29 rfl HI8.out .nil)) rfl ⟨rfl, ?_⟩
      exact below_setRow HW.out (by omega) _
    | succ k1 =>
      have hx := HX.out
      have h8 := H8.out
      have HX' := HX
      have p1 : 0 ≤ x := hx.1
      have q1 : x < (l.length : Int) := by omega
      have q8 : x < 8 := by omega
      have hb : decide (x < (l.length : Int)) = true := decide_eq_true q1
      have hcp := blk_i64 H0.out x p1 (by have := HD.out; omega)
      have hfo := blk_frozen H2.out x.toNat
      have hco := blk_u8 H2.out x p1 (by omega)
      obtain ⟨ad, e, hcs⟩ := Kd.at_int (Kd.C_below HR0.out HW.out) x p1 q1
      cases e
      have hmem : rd l x ∈ l := by
        simp [rd, List.getD, List.getElem?_eq_getElem (show x.toNat < l.length by omega)]
      have hbb := hnz _ hmem
      have hwb : wrap64 (rd l x) = rd l x := Go.IntWalk.wrap64_in _ (by omega)
      have hz0 : ¬ wrap64 (rd l x) = 0 := by rw [hwb]; omega
      have hz1 : (wrap64 (rd l x) == 0) = false := beq_eq_false_iff_ne.mpr hz0
      have hz2 : (wrap64 (rd l x) != 0) = true := bne_iff_ne.mpr hz0
      have hw : wrap64 (x + 1) = x + 1 := Go.IntWalk.wrap64_in _ (by omega)
      have hd := HD.out
      by_cases he : eye = 1
      · have he1 : (eye == 1) = true := by simpa using he
        have HF := Aside0.mk (show rdS eye (rd l x) (rd d x) = (wrap64 ((wrap64 (rd d x + 500)).tdiv 1000)).tmod (wrap64 (rd l x)) % 256 by rw [rdS, if_pos he])
        obtain ⟨rv, hrv⟩ : ∃ rv, rdS eye (rd l x) (rd d x) = rv := ⟨_, rfl⟩
        have HN := Aside0.mk (show 0 ≤ wrap64 (x + 1) ∧ wrap64 (x + 1) + k1 = l.length ∧ (o.set x.toNat rv).length = 8 ∧ (o.set x.toNat rv).take (wrap64 (x + 1)).toNat = (readL (rdS eye) l d).take (wrap64 (x + 1)).toNat ∧ (o.set x.toNat rv).drop (wrap64 (x + 1)).toNat = ([0, 0, 0, 0, 0, 0, 0, 0] : List Int).drop (wrap64 (x + 1)).toNat by
          rw [hw, ← read_at (rdS eye) l d x rv p1 q1 (by omega) hrv]
          exact ⟨by omega, by omega, by rw [List.length_set]; omega, take_set_nextR o (readL (rdS eye) l d) x p1 (by omega) (by rw [readL_len]; omega) hx.2.2.2.1, drop_set_nextR o _ x _ p1 hx.2.2.2.2⟩)
        rw [HF.out] at hrv
        subst hrv
        clear he hx hw HX HX' h8 hbb hwb hmem hnz hd
        replace p1 := eq_true p1
        replace q1 := eq_true q1
        replace q8 := eq_true q8
        go_wp2
        go_quiet (fail)
        go_wp2
        go_roundg k1
        case measure => omega
        case rel => exact ⟨wrap64 (x + 1), _, rfl, HN, ⟨below_set (by repeat (first | exact HW.out | apply below_drew1 | apply pw_below_drewN)) (by omega)⟩, ⟨blk_far (by repeat (first | exact H0.out | (with_reducible refine blk_drew ?_) | (with_reducible refine blk_drewN ?_ _))) (show W.heap.size ≠ W.heap.size + 1 + 1 by omega) _⟩, ⟨blk_far (by repeat (first | exact H1.out | (with_reducible refine blk_drew ?_) | (with_reducible refine blk_drewN ?_ _))) (show W.heap.size + 1 ≠ W.heap.size + 1 + 1 by omega) _⟩, ⟨blk_u8_set (by repeat (first | exact H2.out | (with_reducible refine blk_drew ?_) | (with_reducible refine blk_drewN ?_ _))) _ _⟩⟩
      · have he1 : (eye == 1) = false := by simpa using he
        have HF := Aside0.mk (show rdS eye (rd l x) (rd d x) = wrap64 ((rd d x).tdiv 1000) % 256 by rw [rdS, if_neg he])
        obtain ⟨rv, hrv⟩ : ∃ rv, rdS eye (rd l x) (rd d x) = rv := ⟨_, rfl⟩
        have HN := Aside0.mk (show 0 ≤ wrap64 (x + 1) ∧ wrap64 (x + 1) + k1 = l.length ∧ (o.set x.toNat rv).length = 8 ∧ (o.set x.toNat rv).take (wrap64 (x + 1)).toNat = (readL (rdS eye) l d).take (wrap64 (x + 1)).toNat ∧ (o.set x.toNat rv).drop (wrap64 (x + 1)).toNat = ([0, 0, 0, 0, 0, 0, 0, 0] : List Int).drop (wrap64 (x + 1)).toNat by
          rw [hw, ← read_at (rdS eye) l d x rv p1 q1 (by omega) hrv]
          exact ⟨by omega, by omega, by rw [List.length_set]; omega, take_set_nextR o (readL (rdS eye) l d) x p1 (by omega) (by rw [readL_len]; omega) hx.2.2.2.1, drop_set_nextR o _ x _ p1 hx.2.2.2.2⟩)
        rw [HF.out] at hrv
        subst hrv
        clear he hx hw HX HX' h8 hbb hwb hmem hnz hd
        replace p1 := eq_true p1
        replace q1 := eq_true q1
        replace q8 := eq_true q8
        go_wp2
        go_roundg k1
        case measure => omega
        case rel => exact ⟨wrap64 (x + 1), _, rfl, HN, ⟨below_set (by repeat (first | exact HW.out | apply below_drew1 | apply pw_below_drewN)) (by omega)⟩, ⟨blk_far (by repeat (first | exact H0.out | (with_reducible refine blk_drew ?_) | (with_reducible refine blk_drewN ?_ _))) (show W.heap.size ≠ W.heap.size + 1 + 1 by omega) _⟩, ⟨blk_far (by repeat (first | exact H1.out | (with_reducible refine blk_drew ?_) | (with_reducible refine blk_drewN ?_ _))) (show W.heap.size + 1 ≠ W.heap.size + 1 + 1 by omega) _⟩, ⟨blk_u8_set (by repeat (first | exact H2.out | (with_reducible refine blk_drew ?_) | (with_reducible refine blk_drewN ?_ _))) _ _⟩⟩
end Go.Proofs.Ytcapjgjjaolofaa.P
