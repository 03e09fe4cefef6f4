/- Contracts that the print does not take: a motion that a pointer leads to is right, as the reference asks. -/
import Derived.Test.YtdgillfbdlmloaaGreatDoorPx3
import Derived.Test.YtdgillfbdlmloaaGreatDoorPx1
import Derived.IntWalk
import Derived.Test.YtdgillfbdlmloaaGreatDoorMotL
namespace Go.Proofs.YtdgillfbdlmloaaGreatDoor.P
open Go.RowKit Go.Proofs.YtdgillfbdlmloaaGreatDoorW.PrintWords Go.Proofs.YtdgillfbdlmloaaGreatDoorW.PrintLast Go.Proofs.YtdgillfbdlmloaaGreatDoorW.PrintMore
set_option linter.unusedVariables false
set_option linter.unusedSimpArgs false
/-- A motion lies at block g. -/
def MotP (W : World) (g : Nat) (A0 : Option Addr) (c0 : Nat) (l : List Int) (A1 : Option Addr) (c1 : Nat) (js : List S39) : Prop :=
  W.heap[g]? = some (.cells #[.slice A0 l.length c0, .slice A1 js.length c1] 26 (0, 0))
/-- A joint that is right, as the reference asks. -/
def okS (a b : Int) : Bool := !(a == 0 && b != 0) && (decide (0 ≤ wrap64 a ∧ wrap64 a ≤ 1) && decide (0 ≤ wrap64 b ∧ wrap64 b ≤ 999))
theorem drop_rdK (l : List S39) (x : Int) (h0 : 0 ≤ x) (h1 : x < (l.length : Int)) : l.drop x.toNat = rd_T39 l x :: l.drop (x + 1).toNat := by
  have e : (x + 1).toNat = x.toNat + 1 := by omega
  rw [e, List.drop_eq_getElem_cons (show x.toNat < l.length by omega)]
  simp [rd_T39, List.getD, List.getElem?_eq_getElem (show x.toNat < l.length by omega)]
theorem in_fK (a lo hi : Int) : spec_l00In.f a lo hi = some (decide (lo ≤ a ∧ a ≤ hi)) := by
  unfold spec_l00In.f
  by_cases h : lo ≤ a <;> simp [h]
set_option maxHeartbeats 8000000 in
set_option maxRecDepth 100000 in
theorem l02Ok_calls (k : Nat) (g : Nat) (A0 : Option Addr) (c0 : Nat) (l : List Int) (A1 : Option Addr) (c1 : Nat) (js : List S39) (v : Bool) (hv : spec_ValidStack.f k l = some v) (W : World) (hg : MotP W g A0 c0 l A1 c1 js)
    (hr0 : Kd.C (Kd.int .u8) W A0 l.length l) (hc0 : l.length ≤ c0) (hr1 : Kd.C k39 W A1 js.length js) :
    Calls Tryz.prog 12 #[.pointer (some ⟨g, 0, none⟩)] W fun e w' => e = .returned (.bool (v && (decide ((js.length : Int) = wrap64 ((l.length : Int) - 1)) && js.all (fun j => okS j.f0 j.f1)))) ∧ Below W.heap.size W w' := by
  have hl1 : (l.length : Int) ≤ 9223372036854775807 := by have := hr0.2.1; omega
  have hl2 : (js.length : Int) ≤ 9223372036854775807 := by have := hr1.2.1; omega
  have HL1 := Aside0.mk hl1
  have HL2 := Aside0.mk hl2
  have HV := Aside0.mk hv
  have HR0 := Aside0.mk hr0
  have HR1 := Aside0.mk hr1
  have HC0 := Aside0.mk hc0
  have HG := Aside0.mk hg
  have hcA : W.cell? ⟨g, 0, none⟩ = some (.slice A0 l.length c0) := (blk_cell hg 0).trans rfl
  have hcB : W.cell? ⟨g, 1, none⟩ = some (.slice A1 js.length c1) := (blk_cell hg 1).trans rfl
  cases v with
  | false =>
    clear hv hg hr0 hr1 hc0 hl1 hl2
    go_enter Tryz.func12, Tryz.ntmps12
    go_wp2
    go_quiet (first | (go_at_call 27; refine (spec_ValidStack.calls k _ _ _ _ _ ?s1 HC0.out HV.out).mono ?_; (case s1 => repeat (first | exact HR0.out | (with_reducible refine Kd.C_alloc ?_ _) | (with_reducible refine Kd.C_drewN ?_ _) | (with_reducible refine Kd.C_drew ?_))); rintro e w' ⟨rfl, ⟨nd, rfl⟩⟩; exact ⟨rfl, _, World.drewN_drewN _ _ _⟩))
    go_wp2
    go_ret
    exact ⟨rfl, pw_below_drewN (Below.refl _ _) _⟩
  | true =>
    by_cases hn : (js.length : Int) = wrap64 ((l.length : Int) - 1)
    · have hn1 : ((js.length : Int) != wrap64 ((l.length : Int) - 1)) = false := by simpa using hn
      have HD := Aside0.mk (show decide ((js.length : Int) = wrap64 ((l.length : Int) - 1)) = true from decide_eq_true hn)
      clear hv hr0 hr1 hc0 hl1 hl2 hn hg
      go_enter Tryz.func12, Tryz.ntmps12
      go_wp2
      go_quiet (first | (go_at_call 27; refine (spec_ValidStack.calls k _ _ _ _ _ ?s1 HC0.out HV.out).mono ?_; (case s1 => repeat (first | exact HR0.out | (with_reducible refine Kd.C_alloc ?_ _) | (with_reducible refine Kd.C_drewN ?_ _) | (with_reducible refine Kd.C_drew ?_))); rintro e w' ⟨rfl, ⟨nd, rfl⟩⟩; exact ⟨rfl, _, World.drewN_drewN _ _ _⟩))
      go_wp2
      go_loopg [3] js.length (fun kq v3 w' => ∃ x : Int, v3 = .int .i64 x ∧ Aside0 (0 ≤ x ∧ x + kq = js.length ∧ (js.drop x.toNat).all (fun j => okS j.f0 j.f1) = js.all (fun j => okS j.f0 j.f1)) ∧ Aside0 (Below W.heap.size W w'))
      case atStart => exact ⟨0, rfl, ⟨by omega, by omega, by simp⟩, ⟨pw_below_drewN (Below.refl _ _) _⟩⟩
      case round =>
        clear hcA hcB
        obtain ⟨x, rfl, HX, HW⟩ := hrel
        have hgw := blk_below HG.out HW.out
        have hcB : wr.cell? ⟨g, 1, none⟩ = some (.slice A1 js.length c1) := (blk_cell hgw 1).trans rfl
        clear hgw
        cases gk with
        | zero =>
          have hx := HX.out
          have hb : decide (x < (js.length : Int)) = false := decide_eq_false (by omega)
          have hres : (true && (decide ((js.length : Int) = wrap64 ((l.length : Int) - 1)) && js.all (fun j => okS j.f0 j.f1))) = true := by
            rw [HD.out, ← hx.2.2, List.drop_eq_nil_of_le (by omega)]
            rfl
          have Hres := Aside0.mk hres
          clear hx hres
          go_wp2
          go_ret
          exact ⟨by (rw [Hres.out]; first | done | rfl), HW.out⟩
        | succ k1 =>
          have hx := HX.out
          have p1 : 0 ≤ x := hx.1
          have q1 : x < (js.length : Int) := by omega
          have hd := drop_rdK js x p1 q1
          have hb : decide (x < (js.length : Int)) = true := decide_eq_true q1
          obtain ⟨ad, e, hcell0, hcell1⟩ := at_T39 (Kd.C_below HR1.out HW.out) x p1 q1
          cases e
          have hw : wrap64 (x + 1) = x + 1 := Go.IntWalk.wrap64_in _ (by have := HL2.out; omega)
          obtain ⟨a, ha⟩ : ∃ a, a = (rd_T39 js x).f0 := ⟨_, rfl⟩
          obtain ⟨b, hbb⟩ : ∃ b, b = (rd_T39 js x).f1 := ⟨_, rfl⟩
          obtain ⟨t1, h1⟩ : ∃ t, decide (0 ≤ wrap64 a ∧ wrap64 a ≤ 1) = t := ⟨_, rfl⟩
          obtain ⟨t2, h2⟩ : ∃ t, decide (0 ≤ wrap64 b ∧ wrap64 b ≤ 999) = t := ⟨_, rfl⟩
          obtain ⟨p, hp⟩ : ∃ p, (a == 0) = p := ⟨_, rfl⟩
          obtain ⟨q, hq⟩ : ∃ q, (b != 0) = q := ⟨_, rfl⟩
          have HIN1 := Aside0.mk (show spec_l00In.f (wrap64 a) 0 1 = some t1 by rw [in_fK, h1])
          have HIN2 := Aside0.mk (show spec_l00In.f (wrap64 b) 0 999 = some t2 by rw [in_fK, h2])
          have hok : okS a b = (!(p && q) && (t1 && t2)) := by unfold okS; rw [h1, h2, hp, hq]
          rw [← ha] at hcell0
          rw [← hbb] at hcell1
          have hall : (js.drop x.toNat).all (fun j => okS j.f0 j.f1) = (okS a b && (js.drop (x + 1).toNat).all (fun j => okS j.f0 j.f1)) := by rw [hd, List.all_cons, ← ha, ← hbb]
          have yes : okS a b = true → Aside0 (0 ≤ wrap64 (x + 1) ∧ wrap64 (x + 1) + k1 = js.length ∧ (js.drop (wrap64 (x + 1)).toNat).all (fun j => okS j.f0 j.f1) = js.all (fun j => okS j.f0 j.f1)) := fun h => ⟨by
            rw [hw]
            exact ⟨by omega, by omega, by rw [← hx.2.2, hall, h, Bool.true_and]⟩⟩
          have no : okS a b = false → Aside0 ((true && (decide ((js.length : Int) = wrap64 ((l.length : Int) - 1)) && js.all (fun j => okS j.f0 j.f1))) = false) := fun h => ⟨by
            rw [HD.out, ← hx.2.2, hall, h]
            rfl⟩
          rw [hok] at yes no
          clear hx hd hw ha hbb hok hall HX h1 h2
          replace p1 := eq_true p1
          replace q1 := eq_true q1
          have goOn : ∀ (_ : (!(p && q) && (t1 && t2)) = true), True := fun _ => trivial
          clear goOn
          cases p <;> cases q <;> cases t1 <;> cases t2
          all_goals first
            | (have HN := yes rfl
               clear yes no
               go_wp2_with (first | (go_at_call 28; (first | (with_reducible refine (spec_l00In.calls _ _ _ _ _ HIN1.out).mono ?_) | (with_reducible refine (spec_l00In.calls _ _ _ _ _ HIN2.out).mono ?_)); rintro e w' ⟨rfl, ⟨nd, rfl⟩⟩))
               go_roundg k1
               case measure => omega
               case rel => exact ⟨wrap64 (x + 1), rfl, HN, ⟨by repeat (first | exact HW.out | apply pw_below_drewN | apply below_alloc | refine below_set ?_ HW.out.size)⟩⟩)
            | (have HN := no rfl
               clear yes no
               go_wp2_with (first | (go_at_call 28; (first | (with_reducible refine (spec_l00In.calls _ _ _ _ _ HIN1.out).mono ?_) | (with_reducible refine (spec_l00In.calls _ _ _ _ _ HIN2.out).mono ?_)); rintro e w' ⟨rfl, ⟨nd, rfl⟩⟩))
               go_ret
               exact ⟨by (rw [HN.out]; first | done | rfl), by repeat (first | exact HW.out | apply pw_below_drewN | apply below_alloc | refine below_set ?_ HW.out.size)⟩)
    · have hn1 : ((js.length : Int) != wrap64 ((l.length : Int) - 1)) = true := by simpa using hn
      have HD := Aside0.mk (show decide ((js.length : Int) = wrap64 ((l.length : Int) - 1)) = false from decide_eq_false hn)
      clear hv hr0 hr1 hc0 hl1 hl2 hn hg
      go_enter Tryz.func12, Tryz.ntmps12
      go_wp2
      go_quiet (first | (go_at_call 27; refine (spec_ValidStack.calls k _ _ _ _ _ ?s1 HC0.out HV.out).mono ?_; (case s1 => repeat (first | exact HR0.out | (with_reducible refine Kd.C_alloc ?_ _) | (with_reducible refine Kd.C_drewN ?_ _) | (with_reducible refine Kd.C_drew ?_))); rintro e w' ⟨rfl, ⟨nd, rfl⟩⟩; exact ⟨rfl, _, World.drewN_drewN _ _ _⟩))
      go_wp2
      go_ret
      exact ⟨by (rw [HD.out]; first | done | rfl), pw_below_drewN (Below.refl _ _) _⟩
end Go.Proofs.YtdgillfbdlmloaaGreatDoor.P
/- The motion that a text spells, as the reference reads it. -/
namespace Go.Proofs.YtdgillfbdlmloaaGreatDoor.P
open Go.RowKit Go.Proofs.YtdgillfbdlmloaaGreatDoorW.PrintWords Go.Proofs.YtdgillfbdlmloaaGreatDoorW.PrintLast Go.Proofs.YtdgillfbdlmloaaGreatDoorW.PrintMore
set_option linter.unusedVariables false
set_option linter.unusedSimpArgs false
/-- The joints that the words spell, behind those that have come; none where one spells no joint. -/
def goR (k : Nat) : List ByteArray → List S39 → Option (Option (List S39))
  | [], acc => some (some acc)
  | t :: r, acc => (spec_l02Joint.f k t).bind fun j => if j.2.2 = true then goR k r (acc ++ [⟨j.1, j.2.1⟩]) else some none
/-- What becomes of the joints. -/
def endR (k : Nat) (s : List Int) : Option (List S39) → Option (List Int × List S39 × Int)
  | none => some ([], [], 5)
  | some js => (spec_ValidStack.f k s).bind fun v => if (v && (decide ((js.length : Int) = wrap64 ((s.length : Int) - 1)) && js.all (fun j => okS j.f0 j.f1))) = true then some (s, js, 0) else some ([], [], 5)
def spec_ReadMotion.f (k : Nat) (a0 : ByteArray) : Option (List Int × List S39 × Int) :=
  if a0.size ≤ 140737488351232 then (spec_l01Split.f k a0 32).bind fun ws => match ws with
    | [] => none
    | w :: r => if r.length ≤ 1048576 then (spec_ReadStack.f k w).bind fun s => if s.2 = 0 then (goR k r []).bind fun o => endR k s.1 o else some ([], [], 5) else none
  else none
theorem goR_mono (ws : List ByteArray) : ∀ (acc : List S39) (k : Nat), LeO (goR k ws acc) (goR (k + 1) ws acc) := by
  induction ws with
  | nil => exact fun acc k => LeO.refl _
  | cons t r ih =>
    intro acc k
    unfold goR
    repeat' first
      | (with_reducible exact ih _ _)
      | (with_reducible exact spec_l02Joint.mono _ _)
      | (with_reducible exact LeO.refl _)
      | (with_reducible refine LeO.ite ?_ ?_)
      | (with_reducible refine LeO.bind ?_ (fun _ => ?_))
theorem endR_mono (s : List Int) (o : Option (List S39)) (k : Nat) : LeO (endR k s o) (endR (k + 1) s o) := by
  cases o with
  | none => exact LeO.refl _
  | some js =>
    unfold endR
    repeat' first
      | (with_reducible exact spec_ValidStack.mono _ _)
      | (with_reducible exact LeO.refl _)
      | (with_reducible refine LeO.ite ?_ ?_)
      | (with_reducible refine LeO.bind ?_ (fun _ => ?_))
theorem spec_ReadMotion.mono : ∀ a0 k, LeO (spec_ReadMotion.f k a0) (spec_ReadMotion.f (k + 1) a0) := by
  intro a0 k
  unfold spec_ReadMotion.f
  refine LeO.ite ?_ (LeO.refl _)
  refine LeO.bind (spec_l01Split.mono _ _ _) (fun ws => ?_)
  cases ws with
  | nil => exact LeO.refl _
  | cons w r =>
    refine LeO.ite ?_ (LeO.refl _)
    refine LeO.bind (spec_ReadStack.mono _ _) (fun s => ?_)
    refine LeO.ite ?_ (LeO.refl _)
    exact LeO.bind (goR_mono _ _ _) (fun o => endR_mono _ _ _)
theorem rd_tail (t0 : ByteArray) (ts : List ByteArray) (i : Int) (h : 1 ≤ i) : rdOf ByteArray.empty (t0 :: ts) i = rdOf ByteArray.empty ts (i - 1) := by
  unfold rdOf
  rw [show i.toNat = (i - 1).toNat + 1 by omega]
  simp [List.getD]
theorem rd_at (ts : List ByteArray) (x : Int) (h : x.toNat < ts.length) : rdOf ByteArray.empty ts x = ts[x.toNat] := by
  unfold rdOf
  rw [List.getD_eq_getElem?_getD, List.getElem?_eq_getElem h]
  rfl
set_option maxRecDepth 100000 in
set_option maxHeartbeats 8000000 in
theorem spec_ReadMotion.calls (k : Nat) (a0 : ByteArray) (r1 : List Int) (r2 : List S39) (r3 : Int) (w : World) (h : spec_ReadMotion.f k a0 = some (r1, r2, r3)) :
    Calls Tryz.prog 4 #[.string a0] w fun e w' => ∃ v0_ v1_ : Value, e = .returned (.tuple #[.agg #[v0_, v1_], .int .i64 r3]) ∧ Kd.R (Kd.int .u8) 5 w' w.heap.size (fun _ => True) v0_ r1 ∧ Kd.R k39 39 w' w.heap.size (fun _ => True) v1_ r2 ∧ Below w.heap.size w w' := by
  unfold spec_ReadMotion.f at h
  split at h
  · replace h := Option.bind_eq_some_iff.mp h
    obtain ⟨ws, hws, h⟩ := h
    cases ws with
    | nil => cases h
    | cons t0 ts =>
      simp only at h
      split at h
      · rename_i hl
        replace h := Option.bind_eq_some_iff.mp h
        obtain ⟨⟨sl, code⟩, hst, h⟩ := h
        have HWS := Aside0.mk hws
        have HL := Aside0.mk hl
        have HST := Aside0.mk hst
        have HR := Aside0.mk h
        clear hws hl hst h
        go_enter Tryz.func4, Tryz.ntmps4
        have hB0 : Below w.heap.size w (w.alloc (.cells #[.slice none 0 0, .slice none 0 0] 26)) := below_alloc (Below.refl _ _) _
        have bG := blk_new w (.cells #[.slice none 0 0, .slice none 0 0] 26)
        go_wp2_with fail
        refine (spec_l01Split.calls k a0 32 _ _ HWS.out).mono ?_
        rintro e W1 ⟨vw, rfl, hRW, hb1⟩
        obtain ⟨Aw, cw, rfl⟩ := Kd.R_slice hRW
        have HG1 := Aside0.mk (blk_below bG hb1)
        have HB1 := Aside0.mk (hB0.trans (hb1.mono hB0.size))
        have HW1 := Aside0.mk (Kd.R_lower hRW hB0.size)
        have HSZ1 := Aside0.mk (show w.heap.size + 1 ≤ W1.heap.size by have := hb1.size; simp at this; omega)
        obtain ⟨ad, e, hc0⟩ := Kd.at_string (Kd.R_reads' hRW).2.2 0 (Int.le_refl 0) (by simp)
        cases e
        have hc0' : W1.cell? ad = some (.string t0) := hc0
        clear hB0 bG hRW hb1 hc0
        go_wp2_with fail
        refine (spec_ReadStack.calls k t0 sl code _ HST.out).mono ?_
        rintro e W2 ⟨v0, rfl, hR2, hb2⟩
        obtain ⟨Am, cm, rfl⟩ := Kd.R_slice hR2
        have HG2 := Aside0.mk (blk_below HG1.out hb2)
        have HW2 := Aside0.mk (Kd.R_below HW1.out hb2)
        have HB2 := Aside0.mk (HB1.out.trans (hb2.mono HB1.out.size))
        have HK2 := Aside0.mk (Kd.R_lower hR2 HB1.out.size)
        have HSZ2 := Aside0.mk (Nat.le_trans HSZ1.out hb2.size)
        clear hR2 hb2 hc0' HG1 HW1 HB1 HSZ1
        by_cases hc : code = 0
        · subst hc
          have hr := HR.out
          rw [if_pos rfl] at hr
          replace hr := Option.bind_eq_some_iff.mp hr
          obtain ⟨o, hgo, hend⟩ := hr
          have HGO := Aside0.mk hgo
          have HEND := Aside0.mk hend
          clear hgo hend HR
          go_wp2_with fail
          obtain ⟨M, hM⟩ : ∃ M, M = W2.heap.size := ⟨_, rfl⟩
          have bM := blk_new W2 (.cells #[.slice Am sl.length cm, .slice none 0 0] 26)
          have HG3 := Aside0.mk (blk_alloc HG2.out (.cells #[.slice Am sl.length cm, .slice none 0 0] 26))
          have HW3 := Aside0.mk (Kd.R_alloc HW2.out (.cells #[.slice Am sl.length cm, .slice none 0 0] 26))
          have HB3 := Aside0.mk (below_alloc HB2.out (.cells #[.slice Am sl.length cm, .slice none 0 0] 26))
          have HK3 := Aside0.mk (Kd.R_alloc HK2.out (.cells #[.slice Am sl.length cm, .slice none 0 0] 26))
          have HMG := Aside0.mk (show w.heap.size + 1 ≤ M by rw [hM]; exact HSZ2.out)
          rw [← hM] at bM ⊢
          generalize W2.alloc (.cells #[.slice Am sl.length cm, .slice none 0 0] 26) = W3 at *
          have HM3 := Aside0.mk bM
          clear hM bM HG2 HW2 HB2 HK2
          go_loopg [8] ts.length (fun kq v8 w' => ∃ (i : Int) (acc : List SJ) (vj : Value), v8 = .int .i64 i ∧ Aside0 (1 ≤ i ∧ i + kq = (ts.length : Int) + 1 ∧ acc.length = (i - 1).toNat ∧ goR k (ts.drop (i - 1).toNat) acc = some o) ∧ Aside0 (Kd.R (Kd.int .u8) 5 w' w.heap.size (fun _ => True) (.slice Am sl.length cm) sl) ∧ Aside0 (Kd.R k39 39 w' w.heap.size (fun _ => True) vj acc) ∧ Aside0 (w'.heap[M]? = some (.cells #[.slice Am sl.length cm, vj] 26 (0, 0))) ∧ Aside0 (Kd.R Kd.string 9 w' w.heap.size (fun _ => True) (.slice (some ad) (t0 :: ts).length cw) (t0 :: ts)) ∧ Aside0 (w'.heap[w.heap.size]? = some (.cells #[.slice none 0 0, .slice none 0 0] 26 (0, 0))) ∧ Aside0 (Below w.heap.size w w'))
          case atStart => exact ⟨1, [], .slice none 0 0, rfl, ⟨by omega, by omega, rfl, HGO.out⟩, HK3, ⟨Kd.R_nil _ _ _ _ _⟩, HM3, HW3, HG3, HB3⟩
          case round =>
            clear HK3 HM3 HW3 HG3 HB3 HGO
            obtain ⟨i, acc, vj, rfl, HX, HK, HJ, HM, HW, HG, HB⟩ := hrel
            cases gk with
            | zero =>
              have hx := HX.out
              have hb : decide (i < (ts.length : Int) + 1) = false := decide_eq_false (by omega)
              have ho : o = some acc := by
                have h2 := hx.2.2.2
                rw [List.drop_eq_nil_of_le (by omega)] at h2
                simp only [goR] at h2
                exact (Option.some.inj h2).symm
              subst ho
              have hend := HEND.out
              unfold endR at hend
              replace hend := Option.bind_eq_some_iff.mp hend
              obtain ⟨v, hv, hend⟩ := hend
              obtain ⟨Aj, cj, rfl⟩ := Kd.R_slice HJ.out
              have HV := Aside0.mk hv
              have hm0 : wr.cell? ⟨M, 0, none⟩ = some (.slice Am sl.length cm) := (blk_cell HM.out 0).trans rfl
              have hm1 : wr.cell? ⟨M, 1, none⟩ = some (.slice Aj acc.length cj) := (blk_cell HM.out 1).trans rfl
              obtain ⟨b, hbb⟩ : ∃ b, b = (v && (decide ((acc.length : Int) = wrap64 ((sl.length : Int) - 1)) && acc.all (fun j => okS j.f0 j.f1))) := ⟨_, rfl⟩
              rw [← hbb] at hend
              have HOK := Aside0.mk (show Calls Tryz.prog 12 #[.pointer (some ⟨M, 0, none⟩)] wr fun e w' => e = .returned (.bool b) ∧ Below wr.heap.size wr w' from by
                rw [hbb]
                exact l02Ok_calls k M Am cm sl Aj cj acc v hv wr HM.out (Kd.R_reads' HK.out).2.2 (Kd.R_reads' HK.out).2.1 (Kd.R_reads' HJ.out).2.2)
              clear hx hv hbb HEND HX
              cases b with
              | true =>
                rw [if_pos rfl] at hend
                simp only [Option.some.injEq, Prod.mk.injEq] at hend
                obtain ⟨rfl, rfl, rfl⟩ := hend
                go_wp2_with (go_at_call 12; refine HOK.out.mono ?_; rintro e W5 ⟨rfl, hb5⟩; have HB5 := Aside0.mk hb5; have hn0 := (hb5.cell (p := ⟨M, 0, none⟩) (blk_lt HM.out)).trans hm0; have hn1 := (hb5.cell (p := ⟨M, 1, none⟩) (blk_lt HM.out)).trans hm1; have hg5 := blk_below HG.out hb5; have hq0 : W5.cell? ⟨w.heap.size, 0, none⟩ = some (.slice none 0 0) := (blk_cell hg5 0).trans rfl; have hq1 : W5.cell? ⟨w.heap.size, 1, none⟩ = some (.slice none 0 0) := (blk_cell hg5 1).trans rfl; have hf0 := blk_frozen hg5 0; have hf1 := blk_frozen hg5 1; have HG5 := Aside0.mk hg5; clear hb5 hg5)
                have hq := box2 HG5.out (.slice Am sl.length cm) (.slice Aj acc.length cj)
                refine bodyPost_ret (results_motion rfl rfl rfl ((blk_cell hq 0).trans rfl) ((blk_cell hq 1).trans rfl)) rfl ?_
                exact ⟨_, _, rfl, Kd.R_set (Kd.R_set (Kd.R_below HK.out HB5.out) HG5.out (by decide) 0 _) (blk_set HG5.out 0 _) (by decide) 1 _, Kd.R_set (Kd.R_set (Kd.R_below HJ.out HB5.out) HG5.out (by decide) 0 _) (blk_set HG5.out 0 _) (by decide) 1 _, ((HB.out.trans (HB5.out.mono HB.out.size)).setCell (p := ⟨w.heap.size, 0, none⟩) (Nat.le_refl _) _).setCell (p := ⟨w.heap.size, 1, none⟩) (Nat.le_refl _) _⟩
              | false =>
                rw [if_neg (by decide)] at hend
                simp only [Option.some.injEq, Prod.mk.injEq] at hend
                obtain ⟨rfl, rfl, rfl⟩ := hend
                go_wp2_with (go_at_call 12; refine HOK.out.mono ?_; rintro e W5 ⟨rfl, hb5⟩; have HB5 := Aside0.mk hb5; have hg5 := blk_below HG.out hb5; have hq0 : W5.cell? ⟨w.heap.size, 0, none⟩ = some (.slice none 0 0) := (blk_cell hg5 0).trans rfl; have hq1 : W5.cell? ⟨w.heap.size, 1, none⟩ = some (.slice none 0 0) := (blk_cell hg5 1).trans rfl; have hf0 := blk_frozen hg5 0; have hf1 := blk_frozen hg5 1; have HG5 := Aside0.mk hg5; clear hb5 hg5)
                have hq := box2 HG5.out (.slice none 0 0) (.slice none 0 0)
                refine bodyPost_ret (results_motion rfl rfl rfl ((blk_cell hq 0).trans rfl) ((blk_cell hq 1).trans rfl)) rfl ?_
                exact ⟨_, _, rfl, Kd.R_nil _ _ _ _ _, Kd.R_nil _ _ _ _ _, ((HB.out.trans (HB5.out.mono HB.out.size)).setCell (p := ⟨w.heap.size, 0, none⟩) (Nat.le_refl _) _).setCell (p := ⟨w.heap.size, 1, none⟩) (Nat.le_refl _) _⟩
            | succ k1 =>
              have hx := HX.out
              have p1 : 0 ≤ i := by omega
              have q1 : i < (ts.length : Int) + 1 := by omega
              have hb : decide (i < (ts.length : Int) + 1) = true := decide_eq_true q1
              obtain ⟨ad2, e, hcs⟩ := Kd.at_string (Kd.R_reads' HW.out).2.2 i p1 (by simp; omega)
              cases e
              have hrd := rd_tail t0 ts i hx.1
              rw [hrd] at hcs
              have hw : wrap64 (i + 1) = i + 1 := Go.IntWalk.wrap64_in _ (by have := HL.out; omega)
              have hgo := hx.2.2.2
              rw [List.drop_eq_getElem_cons (show (i - 1).toNat < ts.length by omega)] at hgo
              have hrd2 := rd_at ts (i - 1) (show (i - 1).toNat < ts.length by omega)
              rw [← hrd2] at hgo
              simp only [goR] at hgo
              generalize rdOf ByteArray.empty ts (i - 1) = t at *
              replace hgo := Option.bind_eq_some_iff.mp hgo
              obtain ⟨⟨j1, j2, j3⟩, hj, hgo⟩ := hgo
              have HJN := Aside0.mk hj
              have hm1 : wr.cell? ⟨M, 1, none⟩ = some vj := (blk_cell HM.out 1).trans rfl
              have hf1 := blk_frozen HM.out 1
              have HAL := Aside0.mk (show acc.length + 1 ≤ 1048577 by have := HL.out; omega)
              cases j3 with
              | true =>
                simp only [if_true] at hgo
                have HN := Aside0.mk (show 1 ≤ wrap64 (i + 1) ∧ wrap64 (i + 1) + k1 = (ts.length : Int) + 1 ∧ (acc ++ [(⟨j1, j2⟩ : SJ)]).length = (wrap64 (i + 1) - 1).toNat ∧ goR k (ts.drop (wrap64 (i + 1) - 1).toNat) (acc ++ [⟨j1, j2⟩]) = some o by
                  rw [hw]
                  refine ⟨by omega, by omega, by rw [List.length_append]; simp; omega, ?_⟩
                  rw [show (i + 1 - 1).toNat = (i - 1).toNat + 1 by omega]
                  exact hgo)
                clear hx hw HX hgo hj hrd hrd2
                replace p1 := eq_true p1
                replace q1 := eq_true q1
                go_wp2_with fail
                refine (spec_l02Joint.calls k t j1 j2 true _ HJN.out).mono ?_
                rintro e W4 ⟨rfl, hb4⟩
                obtain ⟨jb, hjb⟩ : ∃ jb : Obj, jb = .cells #[.int .i8 j1, .int .i16 j2] 39 := ⟨_, rfl⟩
                have HK4 := Aside0.mk (Kd.R_alloc (Kd.R_below HK.out hb4) jb)
                have HJ4 := Aside0.mk (Kd.R_alloc (Kd.R_below HJ.out hb4) jb)
                have HM4 := Aside0.mk (blk_alloc (blk_below HM.out hb4) jb)
                have HW4 := Aside0.mk (Kd.R_alloc (Kd.R_below HW.out hb4) jb)
                have HG4 := Aside0.mk (blk_alloc (blk_below HG.out hb4) jb)
                have HB4 := Aside0.mk (below_alloc (HB.out.trans (hb4.mono HB.out.size)) jb)
                subst hjb
                have hm4 : (W4.alloc (.cells #[.int .i8 j1, .int .i16 j2] 39)).cell? ⟨M, 1, none⟩ = some vj := (blk_cell HM4.out 1).trans rfl
                clear hb4 hm1 hf1
                go_wp2_with (at_builtin; refine Kd.R_append k39 (w0 := w) w.heap.size rfl (.tmp 43) (.tmp 45) 24 39 (.agg #[(.int .i8 0), (.int .i16 0)]) 4 rfl Tryz.underlying24 infoJ rfl (by decide) (by omega) vj acc (⟨j1, j2⟩ : SJ) [.int .i8 j1, .int .i16 j2] (fun _ => True) (fun _ => False) rfl (by rw [World.size_alloc]; rfl) (k39_mkM _ _ _ ⟨j1, j2⟩) (fun _ hk => hk.elim) (fun _ _ => trivial) HJ4.out HB4.out HB4.out.size (by have := HAL.out; omega) ?_; intro v1 w5 hr5 hb5 hg5 _; obtain ⟨A1, n1, c1, rfl⟩ := slice_of hr5; have hM5 := blk_grown HM4.out hg5 (Kd.R_ne HJ4.out HM4.out (by decide)); have hm5 : w5.cell? ⟨M, 1, none⟩ = some vj := (blk_cell hM5 1).trans rfl; have hf5 := blk_frozen hM5 1; have HM5 := Aside0.mk hM5; have HR5 := Aside0.mk hr5; have HB5 := Aside0.mk hb5; have HG5 := Aside0.mk hg5; clear hr5 hb5 hg5 hM5 hm4)
                go_roundg k1
                case measure => omega
                case rel => exact ⟨wrap64 (i + 1), acc ++ [⟨j1, j2⟩], _, rfl, HN, ⟨Kd.R_set (Kd.R_over' HK4.out (Kd.R_typed HJ4.out) (by decide) HG5.out) HM5.out (by decide) 1 _⟩, ⟨Kd.R_set HR5.out HM5.out (by decide) 1 _⟩, ⟨(blk_set HM5.out 1 _).trans rfl⟩, ⟨Kd.R_set (Kd.R_over' HW4.out (Kd.R_typed HJ4.out) (by decide) HG5.out) HM5.out (by decide) 1 _⟩, ⟨blk_far (blk_grown HG4.out HG5.out (Kd.R_ne HJ4.out HG4.out (by decide))) (show w.heap.size ≠ M by have := HMG.out; omega) _⟩, ⟨HB5.out.setCell (p := ⟨M, 1, none⟩) (show w.heap.size ≤ M by have := HMG.out; omega) _⟩⟩
              | false =>
                simp only [Bool.false_eq_true, if_false] at hgo
                have ho : o = none := (Option.some.inj hgo).symm
                subst ho
                have hend := HEND.out
                unfold endR at hend
                simp only [Option.some.injEq, Prod.mk.injEq] at hend
                obtain ⟨rfl, rfl, rfl⟩ := hend
                clear hx hw HX hgo hj hrd hrd2 HEND hm1 hf1
                replace p1 := eq_true p1
                replace q1 := eq_true q1
                go_wp2_with fail
                refine (spec_l02Joint.calls k t j1 j2 false _ HJN.out).mono ?_
                rintro e W4 ⟨rfl, hb4⟩
                have HG4 := Aside0.mk (blk_alloc (blk_below HG.out hb4) (.cells #[.int .i8 j1, .int .i16 j2] 39))
                have HB4 := Aside0.mk (below_alloc (HB.out.trans (hb4.mono HB.out.size)) (.cells #[.int .i8 j1, .int .i16 j2] 39))
                have hq0 : (W4.alloc (.cells #[.int .i8 j1, .int .i16 j2] 39)).cell? ⟨w.heap.size, 0, none⟩ = some (.slice none 0 0) := (blk_cell HG4.out 0).trans rfl
                have hq1 : (W4.alloc (.cells #[.int .i8 j1, .int .i16 j2] 39)).cell? ⟨w.heap.size, 1, none⟩ = some (.slice none 0 0) := (blk_cell HG4.out 1).trans rfl
                have hf0 := blk_frozen HG4.out 0
                have hf1 := blk_frozen HG4.out 1
                clear hb4
                go_wp2_with fail
                have hq := box2 HG4.out (.slice none 0 0) (.slice none 0 0)
                refine bodyPost_ret (results_motion rfl rfl rfl ((blk_cell hq 0).trans rfl) ((blk_cell hq 1).trans rfl)) rfl ?_
                exact ⟨_, _, rfl, Kd.R_nil _ _ _ _ _, Kd.R_nil _ _ _ _ _, (HB4.out.setCell (p := ⟨w.heap.size, 0, none⟩) (Nat.le_refl _) _).setCell (p := ⟨w.heap.size, 1, none⟩) (Nat.le_refl _) _⟩
        · have hcb : (code != 0) = true := by simpa using hc
          have hcb0 : (code == 0) = false := by simpa using hc
          have hr := HR.out
          rw [if_neg hc] at hr
          simp only [Option.some.injEq, Prod.mk.injEq] at hr
          obtain ⟨rfl, rfl, rfl⟩ := hr
          clear HR
          have hx0 : W2.cell? ⟨w.heap.size, 0, none⟩ = some (.slice none 0 0) := (blk_cell HG2.out 0).trans rfl
          have hx1 : W2.cell? ⟨w.heap.size, 1, none⟩ = some (.slice none 0 0) := (blk_cell HG2.out 1).trans rfl
          have hf0 := blk_frozen HG2.out 0
          have hf1 := blk_frozen HG2.out 1
          go_wp2_with fail
          have hq := box2 HG2.out (.slice none 0 0) (.slice none 0 0)
          refine bodyPost_ret (results_motion rfl rfl rfl ((blk_cell hq 0).trans rfl) ((blk_cell hq 1).trans rfl)) rfl ?_
          exact ⟨_, _, rfl, Kd.R_nil _ _ _ _ _, Kd.R_nil _ _ _ _ _, (HB2.out.setCell (p := ⟨w.heap.size, 0, none⟩) (Nat.le_refl _) _).setCell (p := ⟨w.heap.size, 1, none⟩) (Nat.le_refl _) _⟩
      · cases h
  · cases h
end Go.Proofs.YtdgillfbdlmloaaGreatDoor.P
