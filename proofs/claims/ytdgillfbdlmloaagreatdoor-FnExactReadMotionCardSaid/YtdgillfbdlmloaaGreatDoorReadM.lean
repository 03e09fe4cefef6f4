/- The motion that a text spells, as the program reads it: strings.Split, ReadStack, strings.CutPrefix, a decimal number a word, MotionText; where what the readers ask of the world holds. -/
import Derived.Test.YtdgillfbdlmloaaGreatDoorReadD
import Derived.Test.YtdgillfbdlmloaaGreatDoorReadS
import Derived.Test.YtdgillfbdlmloaaGreatDoorMotT
import Derived.Test.YtdgillfbdlmloaaGreatDoorMotL
import Derived.Test.YtdgillfbdlmloaaGreatDoorPx3
namespace Go.Proofs.YtdgillfbdlmloaaGreatDoor.P
open Go.RowKit Go.Shelf Go.Proofs.YtdgillfbdlmloaaGreatDoorW.PrintWords Go.Proofs.YtdgillfbdlmloaaGreatDoorW.PrintLast Go.Proofs.YtdgillfbdlmloaaGreatDoorW.PrintMore
set_option linter.unusedVariables false
set_option linter.unusedSimpArgs false
/-- What stands behind the word 'late', if the text begins so. -/
def preL (t : ByteArray) : ByteArray := ⟨(Lib.trimPrefix t.data.toList [108, 97, 116, 101]).toArray⟩
def hasL (t : ByteArray) : Bool := Lib.hasPrefix t.data.toList [108, 97, 116, 101]
/-- The joint that a word spells. -/
def jointW (t : ByteArray) : Option SJ := if t.toList = ([101, 118, 101, 110] : List UInt8) then some ⟨0, 0⟩ else if hasL t = true then (dec64 (preL t)).bind fun n => if 0 ≤ n ∧ n ≤ 999 then some ⟨1, n⟩ else none else none
/-- The joints that the words spell, behind those that have come. -/
def goM : List ByteArray → List SJ → Option (List SJ)
  | [], acc => some acc
  | t :: r, acc => match jointW t with
    | none => none
    | some p => goM r (acc ++ [p])
/-- What becomes of the joints. -/
def endM (a0 : ByteArray) (s : List Int) : Option (List SJ) → Option (List Int × List SJ × Int)
  | none => some ([], [], 5)
  | some js => (impl_MotionText.f s js).bind fun t => if t.toList = a0.toList then some (s, js, 0) else some ([], [], 5)
def readM (a0 : ByteArray) : Option (List Int × List SJ × Int) :=
  if a0.size ≤ 1048576 then (match wordsB 32 a0 with
    | [] => none
    | w :: r => (impl_ReadStack.f w).bind fun s => if s.2 = 0 then endM a0 s.1 (goM r []) else some ([], [], 5)) else none
theorem pre_calls (t : ByteArray) (b : Bool) (h : hasL t = b) (w : World) :
    Calls Tryz.prog 15 #[.string t, .string ⟨#[108, 97, 116, 101]⟩] w fun e w' => e = .returned (.tuple #[.string (preL t), .bool b]) ∧ w' = w := by
  subst h
  exact Tryz.strings_CutPrefix t ⟨#[108, 97, 116, 101]⟩ w
theorem preL_le (t : ByteArray) : (preL t).size ≤ t.size := by
  show (Lib.trimPrefix t.data.toList [108, 97, 116, 101]).toArray.size ≤ t.data.size
  unfold Lib.trimPrefix
  split <;> simp
/-- A number, read: whatever it is. -/
theorem readDec_any (t : ByteArray) (ht : t.size ≤ 281474976710656) (w : World) (hE : Env w) :
    Calls Tryz.prog 16 #[.string t] w fun e w' => ∃ n b, e = .returned (.tuple #[.int .i64 n, .bool b]) ∧ Below w.heap.size w w' := by
  cases h : dec64 t with
  | none =>
    refine (readDec_no t ht h w hE).mono ?_
    rintro e w' ⟨n, rfl, hb⟩
    exact ⟨n, _, rfl, hb⟩
  | some v =>
    refine (readDec_yes t ht v h w hE).mono ?_
    rintro e w' ⟨rfl, hb⟩
    exact ⟨v, _, rfl, hb⟩
theorem i16_id (n : Int) (h : 0 ≤ n ∧ n ≤ 32767) : IntKind.i16.wrap n = n := by
  have h1 : n % 65536 = n := by omega
  show (if (true && decide (n % 65536 ≥ 32768)) = true then n % 65536 - 65536 else n % 65536) = n
  rw [h1, if_neg (by simp; omega)]
theorem drop_word (l : List ByteArray) (x : Int) (h0 : 0 ≤ x) (h1 : x < (l.length : Int)) : l.drop x.toNat = rdOf ByteArray.empty l x :: l.drop (x + 1).toNat := by
  have e : (x + 1).toNat = x.toNat + 1 := by omega
  rw [e, List.drop_eq_getElem_cons (show x.toNat < l.length by omega)]
  simp [rdOf, List.getD, List.getElem?_eq_getElem (show x.toNat < l.length by omega)]
theorem tail_cell {W : World} {g : Nat} {t0 : ByteArray} {ts : List ByteArray} (h : W.heap[g]? = some (.cells ((t0 :: ts).map Value.string).toArray 9 (0, 0))) (x : Int) (h0 : 0 ≤ x) (h1 : x < (ts.length : Int)) : W.cell? ⟨g, 1 + x.toNat, none⟩ = some (.string (rdOf ByteArray.empty ts x)) := by
  refine (blk_cell h _).trans ?_
  have e : rdOf ByteArray.empty ts x = ts[x.toNat]'(by omega) := by simp [rdOf, List.getD, List.getElem?_eq_getElem (show x.toNat < ts.length by omega)]
  rw [e, Nat.add_comm]
  simp [show x.toNat < ts.length by omega]
set_option maxRecDepth 100000 in
set_option maxHeartbeats 8000000 in
theorem readM_walk (a0 : ByteArray) (r : List Int × List SJ × Int) (hr : readM a0 = some r) (w : World) (hE : Env w) :
    Calls Tryz.prog 5 #[.string a0] w fun e W' => ∃ v0 v1, e = .returned (.tuple #[.agg #[v0, v1], .int .i64 r.2.2]) ∧ Kd.R (Kd.int .u8) 5 W' w.heap.size (fun _ => True) v0 r.1 ∧ Kd.R k39 39 W' w.heap.size (fun _ => True) v1 r.2.1 ∧ Below w.heap.size w W' := by
  have hs : a0.size ≤ 1048576 := by
    unfold readM at hr
    by_cases hs : a0.size ≤ 1048576
    · exact hs
    · rw [if_neg hs] at hr
      cases hr
  unfold readM at hr
  rw [if_pos hs] at hr
  have HS := Aside0.mk hs
  have HE := Aside0.mk hE
  have hws : ∀ t ∈ wordsB 32 a0, t.size ≤ 1048576 := fun t ht => by
    have := splitB_small _ _ _ _ t ht
    omega
  have hwl : (wordsB 32 a0).length ≤ 1048577 := by
    have := wordsB_le 32 a0
    omega
  obtain ⟨ws, hwse⟩ : ∃ ws, ws = wordsB 32 a0 := ⟨_, rfl⟩
  have HWSE := Aside0.mk hwse
  rw [← hwse] at hws hwl hr
  clear hwse
  cases ws with
  | nil => cases hr
  | cons t0 ts =>
    replace hr := Option.bind_eq_some_iff.mp hr
    obtain ⟨⟨sl, code⟩, hst, hr⟩ := hr
    have HWL := Aside0.mk hwl
    have HWS := Aside0.mk hws
    have HST := Aside0.mk hst
    have HR := Aside0.mk hr
    have hsp : ∀ W, Env W → Calls Tryz.prog 13 #[.string a0, .string ⟨#[32]⟩] W fun e w' => e = .returned (.slice (some ⟨W.heap.size, 0, none⟩) (t0 :: ts).length (t0 :: ts).length) ∧ w' = W.alloc (.cells ((t0 :: ts).map Value.string).toArray 9) := by
      rw [HWSE.out]
      exact fun W hW => split_calls 32 a0 hs W hW
    have HSP := Aside0.mk hsp
    clear hs hE hr hws hwl hst hsp
    go_enter Tryz.func5, Tryz.ntmps5
    have hB0 : Below w.heap.size w (w.alloc (.cells #[.slice none 0 0, .slice none 0 0] 26)) := below_alloc (Below.refl _ _) _
    go_wp2_with fail
    refine (HSP.out _ (env_keep HE.out hB0 (Nat.le_refl _))).mono ?_
    rintro e W1 ⟨rfl, hW1⟩
    have bG := blk_alloc (blk_new w (.cells #[.slice none 0 0, .slice none 0 0] 26)) (.cells ((t0 :: ts).map Value.string).toArray 9)
    have bW := blk_new (w.alloc (.cells #[.slice none 0 0, .slice none 0 0] 26)) (.cells ((t0 :: ts).map Value.string).toArray 9)
    have hB1 := below_alloc hB0 (.cells ((t0 :: ts).map Value.string).toArray 9)
    have hS1 : ((w.alloc (.cells #[.slice none 0 0, .slice none 0 0] 26)).alloc (.cells ((t0 :: ts).map Value.string).toArray 9)).heap.size = w.heap.size + 2 := by simp
    rw [← hW1] at bG bW hB1 hS1
    simp only [World.size_alloc] at bW ⊢
    clear hW1 hB0
    have HG1 := Aside0.mk bG
    have HW1 := Aside0.mk bW
    have HB1 := Aside0.mk hB1
    have HS1 := Aside0.mk hS1
    have hc0 : W1.cell? ⟨w.heap.size + 1, 0, none⟩ = some (.string t0) := (blk_cell bW 0).trans rfl
    clear bG bW hB1 hS1
    go_wp2_with fail
    refine (impl_ReadStack.calls t0 sl code W1 HST.out (env_keep HE.out HB1.out (Nat.le_refl _))).mono ?_
    rintro e W2 ⟨v0, rfl, hR2, hb2⟩
    have HG2 := Aside0.mk (blk_below HG1.out hb2)
    have HW2 := Aside0.mk (blk_below HW1.out hb2)
    have HB2 := Aside0.mk (HB1.out.trans (hb2.mono HB1.out.size))
    obtain ⟨Am, cm, rfl⟩ := Kd.R_slice hR2
    have HR2 := Aside0.mk hR2
    have HSZ := Aside0.mk (Nat.le_trans (Nat.le_of_eq HS1.out.symm) hb2.size)
    clear hR2 hb2 hc0
    by_cases hc : code = 0
    · subst hc
      have hr := HR.out
      rw [if_pos rfl] at hr
      have HR3 := Aside0.mk hr
      clear hr HR
      go_wp2_with fail
      · have HTS := Aside0.mk (show ts = [] from h)
        clear h
        obtain ⟨M, hM⟩ : ∃ M, M = W2.heap.size := ⟨_, rfl⟩
        have bM := blk_new W2 (.cells #[.slice Am sl.length cm, .slice none 0 0] 26)
        have HG3 := Aside0.mk (blk_alloc HG2.out (.cells #[.slice Am sl.length cm, .slice none 0 0] 26))
        have HW3 := Aside0.mk (blk_alloc HW2.out (.cells #[.slice Am sl.length cm, .slice none 0 0] 26))
        have HB3 := Aside0.mk (below_alloc HB2.out (.cells #[.slice Am sl.length cm, .slice none 0 0] 26))
        have HK3 := Aside0.mk (Kd.R_alloc (Kd.R_lower HR2.out HB1.out.size) (.cells #[.slice Am sl.length cm, .slice none 0 0] 26))
        have HMG := Aside0.mk (show w.heap.size + 2 ≤ M by rw [hM]; exact HSZ.out)
        rw [← hM] at bM ⊢
        generalize W2.alloc (.cells #[.slice Am sl.length cm, .slice none 0 0] 26) = W3 at *
        have HM3 := Aside0.mk bM
        clear hM bM HG2 HW2 HB2 HR2 HG1 HW1 HB1 HS1
        go_loopg [31] ts.length (fun kq v31 w' => ∃ (x : Int) (acc : List SJ) (vj : Value), v31 = .int .i64 x ∧ Aside0 (0 ≤ x ∧ x + kq = ts.length ∧ acc.length = x.toNat ∧ goM (ts.drop x.toNat) acc = goM ts []) ∧ Aside0 (Kd.R (Kd.int .u8) 5 w' w.heap.size (fun _ => True) (.slice Am sl.length cm) sl) ∧ Aside0 (Kd.R k39 39 w' w.heap.size (fun _ => True) vj acc) ∧ Aside0 (w'.heap[M]? = some (.cells #[.slice Am sl.length cm, vj] 26 (0, 0))) ∧ Aside0 (w'.heap[w.heap.size + 1]? = some (.cells ((t0 :: ts).map Value.string).toArray 9 (0, 0))) ∧ Aside0 (w'.heap[w.heap.size]? = some (.cells #[.slice none 0 0, .slice none 0 0] 26 (0, 0))) ∧ Aside0 (Below w.heap.size w w'))
        case atStart => exact ⟨0, [], .slice none 0 0, rfl, ⟨by omega, by omega, rfl, rfl⟩, HK3, ⟨Kd.R_nil _ _ _ _ _⟩, HM3, HW3, HG3, HB3⟩
        case round =>
          clear HK3 HM3 HW3 HG3 HB3
          obtain ⟨x, acc, vj, rfl, HX, HK, HJ, HM, HW, HG, HB⟩ := hrel
          cases gk with
          | zero =>
            have hx := HX.out
            have hb : decide (x < (ts.length : Int)) = false := decide_eq_false (by omega)
            have hb2 : decide (x < (0 : Int)) = false := decide_eq_false (by omega)
            have hgo : goM ts [] = some acc := by
              rw [← hx.2.2.2, List.drop_eq_nil_of_le (by omega)]
              rfl
            have hr := HR3.out
            rw [hgo] at hr
            unfold endM at hr
            replace hr := Option.bind_eq_some_iff.mp hr
            obtain ⟨t, ht, hr⟩ := hr
            obtain ⟨Aj, cj, rfl⟩ := Kd.R_slice HJ.out
            have HT := Aside0.mk ht
            have HEW := Aside0.mk (env_keep HE.out HB.out (Nat.le_refl _))
            have hm0 : wr.cell? ⟨M, 0, none⟩ = some (.slice Am sl.length cm) := (blk_cell HM.out 0).trans rfl
            have hm1 : wr.cell? ⟨M, 1, none⟩ = some (.slice Aj acc.length cj) := (blk_cell HM.out 1).trans rfl
            clear hx ht hgo HR3 HX
            by_cases ct : t.toList = a0.toList
            · rw [if_pos ct] at hr
              obtain rfl := Option.some.inj hr
              have cb : (t.toList != a0.toList) = false := bne_eq_false_iff_eq.mpr ct
              have cb0 : (t.toList == a0.toList) = true := by simpa using ct
              clear ct hr
              go_wp2_with (go_at_call 18; refine (impl_MotionText.calls Am cm sl Aj cj acc t _ (Kd.R_reads' HK.out).2.2 (Kd.R_reads' HK.out).2.1 (Kd.R_reads' HJ.out).2.2 (Kd.R_reads' HJ.out).2.1 HT.out HEW.out.1).mono ?_; rintro e W5 ⟨rfl, hb5⟩; have HB5 := Aside0.mk hb5; have hn0 := (hb5.cell (p := ⟨M, 0, none⟩) (blk_lt HM.out)).trans hm0; have hn1 := (hb5.cell (p := ⟨M, 1, none⟩) (blk_lt HM.out)).trans hm1; have hg5 := blk_below HG.out hb5; have hq0 : W5.cell? ⟨w.heap.size, 0, none⟩ = some (.slice none 0 0) := (blk_cell hg5 0).trans rfl; have hq1 : W5.cell? ⟨w.heap.size, 1, none⟩ = some (.slice none 0 0) := (blk_cell hg5 1).trans rfl; have hf0 := blk_frozen hg5 0; have hf1 := blk_frozen hg5 1; have HG5 := Aside0.mk hg5; clear hb5 hg5)
              have hq := box2 HG5.out (.slice Am sl.length cm) (.slice Aj acc.length cj)
              refine bodyPost_ret (results_motion rfl rfl rfl ((blk_cell hq 0).trans rfl) ((blk_cell hq 1).trans rfl)) rfl ?_
              exact ⟨_, _, rfl, Kd.R_set (Kd.R_set (Kd.R_below HK.out HB5.out) HG5.out (by decide) 0 _) (Go.Proofs.YtdgillfbdlmloaaGreatDoorW.PrintWords.blk_set HG5.out 0 _) (by decide) 1 _, Kd.R_set (Kd.R_set (Kd.R_below HJ.out HB5.out) HG5.out (by decide) 0 _) (Go.Proofs.YtdgillfbdlmloaaGreatDoorW.PrintWords.blk_set HG5.out 0 _) (by decide) 1 _, ((HB.out.trans (HB5.out.mono HB.out.size)).setCell (p := ⟨w.heap.size, 0, none⟩) (Nat.le_refl _) _).setCell (p := ⟨w.heap.size, 1, none⟩) (Nat.le_refl _) _⟩
            · rw [if_neg ct] at hr
              obtain rfl := Option.some.inj hr
              have cb : (t.toList != a0.toList) = true := by simpa using ct
              have cb0 : (t.toList == a0.toList) = false := by simpa using ct
              clear ct hr
              go_wp2_with (go_at_call 18; refine (impl_MotionText.calls Am cm sl Aj cj acc t _ (Kd.R_reads' HK.out).2.2 (Kd.R_reads' HK.out).2.1 (Kd.R_reads' HJ.out).2.2 (Kd.R_reads' HJ.out).2.1 HT.out HEW.out.1).mono ?_; rintro e W5 ⟨rfl, hb5⟩; have HB5 := Aside0.mk hb5; have hg5 := blk_below HG.out hb5; have hq0 : W5.cell? ⟨w.heap.size, 0, none⟩ = some (.slice none 0 0) := (blk_cell hg5 0).trans rfl; have hq1 : W5.cell? ⟨w.heap.size, 1, none⟩ = some (.slice none 0 0) := (blk_cell hg5 1).trans rfl; have hf0 := blk_frozen hg5 0; have hf1 := blk_frozen hg5 1; have HG5 := Aside0.mk hg5; clear hb5 hg5)
              have hq := box2 HG5.out (.slice none 0 0) (.slice none 0 0)
              refine bodyPost_ret (results_motion rfl rfl rfl ((blk_cell hq 0).trans rfl) ((blk_cell hq 1).trans rfl)) rfl ?_
              exact ⟨_, _, rfl, Kd.R_nil _ _ _ _ _, Kd.R_nil _ _ _ _ _, ((HB.out.trans (HB5.out.mono HB.out.size)).setCell (p := ⟨w.heap.size, 0, none⟩) (Nat.le_refl _) _).setCell (p := ⟨w.heap.size, 1, none⟩) (Nat.le_refl _) _⟩
          | succ k1 =>
            exfalso
            have hx := HX.out
            rw [HTS.out] at hx
            simp at hx
            omega
      · skip
        obtain ⟨M, hM⟩ : ∃ M, M = W2.heap.size := ⟨_, rfl⟩
        have bM := blk_new W2 (.cells #[.slice Am sl.length cm, .slice none 0 0] 26)
        have HG3 := Aside0.mk (blk_alloc HG2.out (.cells #[.slice Am sl.length cm, .slice none 0 0] 26))
        have HW3 := Aside0.mk (blk_alloc HW2.out (.cells #[.slice Am sl.length cm, .slice none 0 0] 26))
        have HB3 := Aside0.mk (below_alloc HB2.out (.cells #[.slice Am sl.length cm, .slice none 0 0] 26))
        have HK3 := Aside0.mk (Kd.R_alloc (Kd.R_lower HR2.out HB1.out.size) (.cells #[.slice Am sl.length cm, .slice none 0 0] 26))
        have HMG := Aside0.mk (show w.heap.size + 2 ≤ M by rw [hM]; exact HSZ.out)
        rw [← hM] at bM ⊢
        generalize W2.alloc (.cells #[.slice Am sl.length cm, .slice none 0 0] 26) = W3 at *
        have HM3 := Aside0.mk bM
        clear hM bM HG2 HW2 HB2 HR2 HG1 HW1 HB1 HS1
        go_loopg [31] ts.length (fun kq v31 w' => ∃ (x : Int) (acc : List SJ) (vj : Value), v31 = .int .i64 x ∧ Aside0 (0 ≤ x ∧ x + kq = ts.length ∧ acc.length = x.toNat ∧ goM (ts.drop x.toNat) acc = goM ts []) ∧ Aside0 (Kd.R (Kd.int .u8) 5 w' w.heap.size (fun _ => True) (.slice Am sl.length cm) sl) ∧ Aside0 (Kd.R k39 39 w' w.heap.size (fun _ => True) vj acc) ∧ Aside0 (w'.heap[M]? = some (.cells #[.slice Am sl.length cm, vj] 26 (0, 0))) ∧ Aside0 (w'.heap[w.heap.size + 1]? = some (.cells ((t0 :: ts).map Value.string).toArray 9 (0, 0))) ∧ Aside0 (w'.heap[w.heap.size]? = some (.cells #[.slice none 0 0, .slice none 0 0] 26 (0, 0))) ∧ Aside0 (Below w.heap.size w w'))
        case atStart => exact ⟨0, [], .slice none 0 0, rfl, ⟨by omega, by omega, rfl, rfl⟩, HK3, ⟨Kd.R_nil _ _ _ _ _⟩, HM3, HW3, HG3, HB3⟩
        case round =>
          clear HK3 HM3 HW3 HG3 HB3
          obtain ⟨x, acc, vj, rfl, HX, HK, HJ, HM, HW, HG, HB⟩ := hrel
          cases gk with
          | zero =>
            have hx := HX.out
            have hb : decide (x < (ts.length : Int)) = false := decide_eq_false (by omega)
            have hb2 : decide (x < (0 : Int)) = false := decide_eq_false (by omega)
            have hgo : goM ts [] = some acc := by
              rw [← hx.2.2.2, List.drop_eq_nil_of_le (by omega)]
              rfl
            have hr := HR3.out
            rw [hgo] at hr
            unfold endM at hr
            replace hr := Option.bind_eq_some_iff.mp hr
            obtain ⟨t, ht, hr⟩ := hr
            obtain ⟨Aj, cj, rfl⟩ := Kd.R_slice HJ.out
            have HT := Aside0.mk ht
            have HEW := Aside0.mk (env_keep HE.out HB.out (Nat.le_refl _))
            have hm0 : wr.cell? ⟨M, 0, none⟩ = some (.slice Am sl.length cm) := (blk_cell HM.out 0).trans rfl
            have hm1 : wr.cell? ⟨M, 1, none⟩ = some (.slice Aj acc.length cj) := (blk_cell HM.out 1).trans rfl
            clear hx ht hgo HR3 HX
            by_cases ct : t.toList = a0.toList
            · rw [if_pos ct] at hr
              obtain rfl := Option.some.inj hr
              have cb : (t.toList != a0.toList) = false := bne_eq_false_iff_eq.mpr ct
              have cb0 : (t.toList == a0.toList) = true := by simpa using ct
              clear ct hr
              go_wp2_with (go_at_call 18; refine (impl_MotionText.calls Am cm sl Aj cj acc t _ (Kd.R_reads' HK.out).2.2 (Kd.R_reads' HK.out).2.1 (Kd.R_reads' HJ.out).2.2 (Kd.R_reads' HJ.out).2.1 HT.out HEW.out.1).mono ?_; rintro e W5 ⟨rfl, hb5⟩; have HB5 := Aside0.mk hb5; have hn0 := (hb5.cell (p := ⟨M, 0, none⟩) (blk_lt HM.out)).trans hm0; have hn1 := (hb5.cell (p := ⟨M, 1, none⟩) (blk_lt HM.out)).trans hm1; have hg5 := blk_below HG.out hb5; have hq0 : W5.cell? ⟨w.heap.size, 0, none⟩ = some (.slice none 0 0) := (blk_cell hg5 0).trans rfl; have hq1 : W5.cell? ⟨w.heap.size, 1, none⟩ = some (.slice none 0 0) := (blk_cell hg5 1).trans rfl; have hf0 := blk_frozen hg5 0; have hf1 := blk_frozen hg5 1; have HG5 := Aside0.mk hg5; clear hb5 hg5)
              have hq := box2 HG5.out (.slice Am sl.length cm) (.slice Aj acc.length cj)
              refine bodyPost_ret (results_motion rfl rfl rfl ((blk_cell hq 0).trans rfl) ((blk_cell hq 1).trans rfl)) rfl ?_
              exact ⟨_, _, rfl, Kd.R_set (Kd.R_set (Kd.R_below HK.out HB5.out) HG5.out (by decide) 0 _) (Go.Proofs.YtdgillfbdlmloaaGreatDoorW.PrintWords.blk_set HG5.out 0 _) (by decide) 1 _, Kd.R_set (Kd.R_set (Kd.R_below HJ.out HB5.out) HG5.out (by decide) 0 _) (Go.Proofs.YtdgillfbdlmloaaGreatDoorW.PrintWords.blk_set HG5.out 0 _) (by decide) 1 _, ((HB.out.trans (HB5.out.mono HB.out.size)).setCell (p := ⟨w.heap.size, 0, none⟩) (Nat.le_refl _) _).setCell (p := ⟨w.heap.size, 1, none⟩) (Nat.le_refl _) _⟩
            · rw [if_neg ct] at hr
              obtain rfl := Option.some.inj hr
              have cb : (t.toList != a0.toList) = true := by simpa using ct
              have cb0 : (t.toList == a0.toList) = false := by simpa using ct
              clear ct hr
              go_wp2_with (go_at_call 18; refine (impl_MotionText.calls Am cm sl Aj cj acc t _ (Kd.R_reads' HK.out).2.2 (Kd.R_reads' HK.out).2.1 (Kd.R_reads' HJ.out).2.2 (Kd.R_reads' HJ.out).2.1 HT.out HEW.out.1).mono ?_; rintro e W5 ⟨rfl, hb5⟩; have HB5 := Aside0.mk hb5; have hg5 := blk_below HG.out hb5; have hq0 : W5.cell? ⟨w.heap.size, 0, none⟩ = some (.slice none 0 0) := (blk_cell hg5 0).trans rfl; have hq1 : W5.cell? ⟨w.heap.size, 1, none⟩ = some (.slice none 0 0) := (blk_cell hg5 1).trans rfl; have hf0 := blk_frozen hg5 0; have hf1 := blk_frozen hg5 1; have HG5 := Aside0.mk hg5; clear hb5 hg5)
              have hq := box2 HG5.out (.slice none 0 0) (.slice none 0 0)
              refine bodyPost_ret (results_motion rfl rfl rfl ((blk_cell hq 0).trans rfl) ((blk_cell hq 1).trans rfl)) rfl ?_
              exact ⟨_, _, rfl, Kd.R_nil _ _ _ _ _, Kd.R_nil _ _ _ _ _, ((HB.out.trans (HB5.out.mono HB.out.size)).setCell (p := ⟨w.heap.size, 0, none⟩) (Nat.le_refl _) _).setCell (p := ⟨w.heap.size, 1, none⟩) (Nat.le_refl _) _⟩
          | succ k1 =>
            have hx := HX.out
            have p1 : 0 ≤ x := hx.1
            have q1 : x < (ts.length : Int) := by omega
            have hd := drop_word ts x p1 q1
            have hb : decide (x < (ts.length : Int)) = true := decide_eq_true q1
            have hcs := tail_cell HW.out x p1 q1
            have hw : wrap64 (x + 1) = x + 1 := Go.IntWalk.wrap64_in _ (by have := HWL.out; simp at this; omega)
            have hgo := hx.2.2.2
            rw [hd] at hgo
            simp only [goM] at hgo
            have htl := HWS.out (rdOf ByteArray.empty ts x) (by
              have := List.mem_of_mem_drop (hd ▸ List.mem_cons_self (a := rdOf ByteArray.empty ts x))
              exact List.mem_cons_of_mem _ this)
            generalize rdOf ByteArray.empty ts x = t at *
            have HLL := Aside0.mk (show (preL t).size ≤ 281474976710656 by have := preL_le t; omega)
            have HEW := Aside0.mk (env_keep HE.out HB.out (Nat.le_refl _))
            cases hj : jointW t with
            | none =>
              have hr := HR3.out
              rw [hj] at hgo
              have hr2 : r = ([], [], 5) := by
                rw [← hgo] at hr
                exact (Option.some.inj hr).symm
              subst hr2
              unfold jointW at hj
              have he : ¬ t.toList = ([101, 118, 101, 110] : List UInt8) := fun he => by
                rw [if_pos he] at hj
                cases hj
              rw [if_neg he] at hj
              have cb : (t.toList == [101, 118, 101, 110]) = false := by simpa using he
              clear hr hgo HR3 HX hx hd he htl hw
              replace p1 := eq_true p1
              replace q1 := eq_true q1
              have fin : ∀ W5, Below wr.heap.size wr W5 → W5.heap[w.heap.size]? = some (.cells #[.slice none 0 0, .slice none 0 0] 26 (0, 0)) ∧ Below w.heap.size w W5 := fun W5 hb => ⟨blk_below HG.out hb, HB.out.trans (hb.mono HB.out.size)⟩
              have FIN := Aside0.mk fin
              clear fin
              cases hH : hasL t with
              | false =>
                have HH := Aside0.mk hH
                clear hH hj
                go_wp2_with fail
                refine (pre_calls t _ HH.out _).mono ?_
                rintro e w4 ⟨rfl, rfl⟩
                go_wp2_with fail
                refine (readDec_any (preL t) HLL.out _ HEW.out).mono ?_
                rintro e W5 ⟨nn, bb, rfl, hb4⟩
                obtain ⟨hg5, hB5⟩ := FIN.out W5 hb4
                have hq0 : W5.cell? ⟨w.heap.size, 0, none⟩ = some (.slice none 0 0) := (blk_cell hg5 0).trans rfl
                have hq1 : W5.cell? ⟨w.heap.size, 1, none⟩ = some (.slice none 0 0) := (blk_cell hg5 1).trans rfl
                have hf0 := blk_frozen hg5 0
                have hf1 := blk_frozen hg5 1
                have HG5 := Aside0.mk hg5
                have HB5 := Aside0.mk hB5
                clear hb4 hg5 hB5
                go_wp2_with fail
                have hq := box2 HG5.out (.slice none 0 0) (.slice none 0 0)
                refine bodyPost_ret (results_motion rfl rfl rfl ((blk_cell hq 0).trans rfl) ((blk_cell hq 1).trans rfl)) rfl ?_
                exact ⟨_, _, rfl, Kd.R_nil _ _ _ _ _, Kd.R_nil _ _ _ _ _, (HB5.out.setCell (p := ⟨w.heap.size, 0, none⟩) (Nat.le_refl _) _).setCell (p := ⟨w.heap.size, 1, none⟩) (Nat.le_refl _) _⟩
              | true =>
                rw [if_pos hH] at hj
                have HH := Aside0.mk hH
                clear hH
                cases hn : dec64 (preL t) with
                | none =>
                  have HD := Aside0.mk hn
                  clear hn hj
                  go_wp2_with fail
                  refine (pre_calls t _ HH.out _).mono ?_
                  rintro e w4 ⟨rfl, rfl⟩
                  go_wp2_with fail
                  refine (readDec_no (preL t) HLL.out HD.out _ HEW.out).mono ?_
                  rintro e W5 ⟨nn, rfl, hb4⟩
                  obtain ⟨hg5, hB5⟩ := FIN.out W5 hb4
                  have hq0 : W5.cell? ⟨w.heap.size, 0, none⟩ = some (.slice none 0 0) := (blk_cell hg5 0).trans rfl
                  have hq1 : W5.cell? ⟨w.heap.size, 1, none⟩ = some (.slice none 0 0) := (blk_cell hg5 1).trans rfl
                  have hf0 := blk_frozen hg5 0
                  have hf1 := blk_frozen hg5 1
                  have HG5 := Aside0.mk hg5
                  have HB5 := Aside0.mk hB5
                  clear hb4 hg5 hB5
                  go_wp2_with fail
                  have hq := box2 HG5.out (.slice none 0 0) (.slice none 0 0)
                  refine bodyPost_ret (results_motion rfl rfl rfl ((blk_cell hq 0).trans rfl) ((blk_cell hq 1).trans rfl)) rfl ?_
                  exact ⟨_, _, rfl, Kd.R_nil _ _ _ _ _, Kd.R_nil _ _ _ _ _, (HB5.out.setCell (p := ⟨w.heap.size, 0, none⟩) (Nat.le_refl _) _).setCell (p := ⟨w.heap.size, 1, none⟩) (Nat.le_refl _) _⟩
                | some n =>
                  rw [hn, Option.bind_some] at hj
                  have hin : ¬ (0 ≤ n ∧ n ≤ 999) := fun hin => by
                    rw [if_pos hin] at hj
                    cases hj
                  have HD := Aside0.mk hn
                  have HI := Aside0.mk (show impl_within.f n 0 999 = some false by rw [within_f, decide_eq_false hin])
                  clear hn hj hin
                  go_wp2_with fail
                  refine (pre_calls t _ HH.out _).mono ?_
                  rintro e w4 ⟨rfl, rfl⟩
                  go_wp2_with fail
                  refine (readDec_yes (preL t) HLL.out n HD.out _ HEW.out).mono ?_
                  rintro e W4 ⟨rfl, hb4'⟩
                  have HB4' := Aside0.mk hb4'
                  clear hb4'
                  go_wp2_with fail
                  refine (impl_within.calls n 0 999 false _ HI.out).mono ?_
                  rintro e w5 ⟨rfl, nd, rfl⟩
                  obtain ⟨W5, hW5⟩ : ∃ W5, W5 = W4.drewN nd := ⟨_, rfl⟩
                  have hb4 : Below w4.heap.size w4 W5 := by rw [hW5]; exact pw_below_drewN HB4'.out nd
                  rw [← hW5]
                  clear hW5
                  obtain ⟨hg5, hB5⟩ := FIN.out W5 hb4
                  have hq0 : W5.cell? ⟨w.heap.size, 0, none⟩ = some (.slice none 0 0) := (blk_cell hg5 0).trans rfl
                  have hq1 : W5.cell? ⟨w.heap.size, 1, none⟩ = some (.slice none 0 0) := (blk_cell hg5 1).trans rfl
                  have hf0 := blk_frozen hg5 0
                  have hf1 := blk_frozen hg5 1
                  have HG5 := Aside0.mk hg5
                  have HB5 := Aside0.mk hB5
                  clear hb4 hg5 hB5
                  go_wp2_with fail
                  have hq := box2 HG5.out (.slice none 0 0) (.slice none 0 0)
                  refine bodyPost_ret (results_motion rfl rfl rfl ((blk_cell hq 0).trans rfl) ((blk_cell hq 1).trans rfl)) rfl ?_
                  exact ⟨_, _, rfl, Kd.R_nil _ _ _ _ _, Kd.R_nil _ _ _ _ _, (HB5.out.setCell (p := ⟨w.heap.size, 0, none⟩) (Nat.le_refl _) _).setCell (p := ⟨w.heap.size, 1, none⟩) (Nat.le_refl _) _⟩
            | some p =>
              rw [hj] at hgo
              have HN := Aside0.mk (show 0 ≤ wrap64 (x + 1) ∧ wrap64 (x + 1) + k1 = ts.length ∧ (acc ++ [p]).length = (wrap64 (x + 1)).toNat ∧ goM (ts.drop (wrap64 (x + 1)).toNat) (acc ++ [p]) = goM ts [] by
                rw [hw]
                exact ⟨by omega, by omega, by rw [List.length_append]; simp; omega, hgo⟩)
              have HAL := Aside0.mk (show acc.length + 1 ≤ 1048577 by have := HWL.out; simp at this; omega)
              have hm1 : wr.cell? ⟨M, 1, none⟩ = some vj := (blk_cell HM.out 1).trans rfl
              have hf1 := blk_frozen HM.out 1
              by_cases he : t.toList = ([101, 118, 101, 110] : List UInt8)
              · unfold jointW at hj
                rw [if_pos he] at hj
                obtain rfl := Option.some.inj hj
                have cb : (t.toList == [101, 118, 101, 110]) = true := by simpa using he
                clear hx hd hw HX hgo hj he htl
                replace p1 := eq_true p1
                replace q1 := eq_true q1
                go_wp2_with fail
                refine (pre_calls t _ rfl _).mono ?_
                rintro e w4 ⟨rfl, rfl⟩
                go_wp2_with fail
                refine (readDec_any (preL t) HLL.out _ HEW.out).mono ?_
                rintro e W4 ⟨nn, bb, rfl, hb4⟩
                have hm4 : W4.cell? ⟨M, 1, none⟩ = some vj := (hb4.cell (p := ⟨M, 1, none⟩) (blk_lt HM.out)).trans hm1
                have HK4 := Aside0.mk (Kd.R_below HK.out hb4)
                have HJ4 := Aside0.mk (Kd.R_below HJ.out hb4)
                have HM4 := Aside0.mk (blk_below HM.out hb4)
                have HW4 := Aside0.mk (blk_below HW.out hb4)
                have HG4 := Aside0.mk (blk_below HG.out hb4)
                have HB4 := Aside0.mk (HB.out.trans (hb4.mono HB.out.size))
                clear hb4 hm1
                go_wp2_with (at_builtin; refine Kd.R_append k39 (w0 := w) w.heap.size rfl (.tmp 50) (.tmp 52) 24 39 (.agg #[(.int .i8 0), (.int .i16 0)]) 4 rfl Tryz.underlying24 infoJ rfl (by decide) (by omega) vj acc (⟨0, 0⟩ : SJ) [.int .i8 0, .int .i16 0] (fun _ => True) (fun _ => False) rfl rfl (k39_mkM _ _ _ ⟨0, 0⟩) (fun _ hk => hk.elim) (fun _ _ => trivial) HJ4.out HB4.out HB4.out.size (by have := HAL.out; omega) ?_; intro v1 w5 hr5 hb5 hg5 _; obtain ⟨A1, n1, c1, rfl⟩ := slice_of hr5; have hM5 := blk_grown HM4.out hg5 (Kd.R_ne HJ4.out HM4.out (by decide)); have hm5 : w5.cell? ⟨M, 1, none⟩ = some vj := (blk_cell hM5 1).trans rfl; have hf5 := blk_frozen hM5 1; have HM5 := Aside0.mk hM5; have HR5 := Aside0.mk hr5; have HB5 := Aside0.mk hb5; have HG5 := Aside0.mk hg5; clear hr5 hb5 hg5 hM5 hm4)
                go_roundg k1
                case measure => omega
                case rel => exact ⟨wrap64 (x + 1), acc ++ [⟨0, 0⟩], _, rfl, HN, ⟨Kd.R_set (Kd.R_over' HK4.out (Kd.R_typed HJ4.out) (by decide) HG5.out) HM5.out (by decide) 1 _⟩, ⟨Kd.R_set HR5.out HM5.out (by decide) 1 _⟩, ⟨(blk_set HM5.out 1 _).trans rfl⟩, ⟨blk_far (blk_grown HW4.out HG5.out (Kd.R_ne HJ4.out HW4.out (by decide))) (show w.heap.size + 1 ≠ M by have := HMG.out; omega) _⟩, ⟨blk_far (blk_grown HG4.out HG5.out (Kd.R_ne HJ4.out HG4.out (by decide))) (show w.heap.size ≠ M by have := HMG.out; omega) _⟩, ⟨HB5.out.setCell (p := ⟨M, 1, none⟩) (show w.heap.size ≤ M by have := HMG.out; omega) _⟩⟩
              · unfold jointW at hj
                rw [if_neg he] at hj
                have cb : (t.toList == [101, 118, 101, 110]) = false := by simpa using he
                split at hj
                · rename_i hH
                  replace hj := Option.bind_eq_some_iff.mp hj
                  obtain ⟨n, hn, hj⟩ := hj
                  split at hj
                  · rename_i hin
                    obtain rfl := Option.some.inj hj
                    have HH := Aside0.mk (show hasL t = true from hH)
                    have HD := Aside0.mk hn
                    have HI := Aside0.mk (show impl_within.f n 0 999 = some true by rw [within_f, decide_eq_true hin])
                    have hci : IntKind.i16.wrap n = n := i16_id n (by omega)
                    clear hx hd hw HX hgo hj he htl hn hH hin
                    replace p1 := eq_true p1
                    replace q1 := eq_true q1
                    go_wp2_with fail
                    refine (pre_calls t _ HH.out _).mono ?_
                    rintro e w4 ⟨rfl, rfl⟩
                    go_wp2_with fail
                    refine (readDec_yes (preL t) HLL.out n HD.out _ HEW.out).mono ?_
                    rintro e W4 ⟨rfl, hb4⟩
                    have HB4' := Aside0.mk hb4
                    clear hb4 hm1 hf1
                    go_wp2_with fail
                    refine (impl_within.calls n 0 999 true _ HI.out).mono ?_
                    rintro e w5 ⟨rfl, nd, rfl⟩
                    obtain ⟨W5, hW5⟩ : ∃ W5, W5 = W4.drewN nd := ⟨_, rfl⟩
                    have hb4 : Below w4.heap.size w4 W5 := by rw [hW5]; exact pw_below_drewN HB4'.out nd
                    rw [← hW5]
                    clear hW5
                    have HK4 := Aside0.mk (Kd.R_below HK.out hb4)
                    have HJ4 := Aside0.mk (Kd.R_below HJ.out hb4)
                    have HM4 := Aside0.mk (blk_below HM.out hb4)
                    have HW4 := Aside0.mk (blk_below HW.out hb4)
                    have HG4 := Aside0.mk (blk_below HG.out hb4)
                    have HB4 := Aside0.mk (HB.out.trans (hb4.mono HB.out.size))
                    have hm4 : W5.cell? ⟨M, 1, none⟩ = some vj := (blk_cell HM4.out 1).trans rfl
                    have hf4 := blk_frozen HM4.out 1
                    clear hb4
                    go_wp2_with (at_builtin; refine Kd.R_append k39 (w0 := w) w.heap.size rfl (.tmp 65) (.tmp 69) 24 39 (.agg #[(.int .i8 0), (.int .i16 0)]) 4 rfl Tryz.underlying24 infoJ rfl (by decide) (by omega) vj acc (⟨1, n⟩ : SJ) [.int .i8 1, .int .i16 n] (fun _ => True) (fun _ => False) rfl rfl (k39_mkM _ _ _ ⟨1, n⟩) (fun _ hk => hk.elim) (fun _ _ => trivial) HJ4.out HB4.out HB4.out.size (by have := HAL.out; omega) ?_; intro v1 w5 hr5 hb5 hg5 _; obtain ⟨A1, n1, c1, rfl⟩ := slice_of hr5; have hM5 := blk_grown HM4.out hg5 (Kd.R_ne HJ4.out HM4.out (by decide)); have hm5 : w5.cell? ⟨M, 1, none⟩ = some vj := (blk_cell hM5 1).trans rfl; have hf5 := blk_frozen hM5 1; have HM5 := Aside0.mk hM5; have HR5 := Aside0.mk hr5; have HB5 := Aside0.mk hb5; have HG5 := Aside0.mk hg5; clear hr5 hb5 hg5 hM5 hm4 hf4)
                    go_roundg k1
                    case measure => omega
                    case rel => exact ⟨wrap64 (x + 1), acc ++ [⟨1, n⟩], _, rfl, HN, ⟨Kd.R_set (Kd.R_over' HK4.out (Kd.R_typed HJ4.out) (by decide) HG5.out) HM5.out (by decide) 1 _⟩, ⟨Kd.R_set HR5.out HM5.out (by decide) 1 _⟩, ⟨(Go.Proofs.YtdgillfbdlmloaaGreatDoorW.PrintWords.blk_set HM5.out 1 _).trans rfl⟩, ⟨blk_far (blk_grown HW4.out HG5.out (Kd.R_ne HJ4.out HW4.out (by decide))) (show w.heap.size + 1 ≠ M by have := HMG.out; omega) _⟩, ⟨blk_far (blk_grown HG4.out HG5.out (Kd.R_ne HJ4.out HG4.out (by decide))) (show w.heap.size ≠ M by have := HMG.out; omega) _⟩, ⟨HB5.out.setCell (p := ⟨M, 1, none⟩) (show w.heap.size ≤ M by have := HMG.out; omega) _⟩⟩
                  · cases hj
                · cases hj
    · have hcb : (code != 0) = true := by simpa using hc
      have hcb0 : (code == 0) = false := by simpa using hc
      have hr := HR.out
      rw [if_neg hc] at hr
      obtain rfl := Option.some.inj hr
      clear hr HR
      have hx0 : W2.cell? ⟨w.heap.size, 0, none⟩ = some (.slice none 0 0) := (blk_cell HG2.out 0).trans rfl
      have hx1 : W2.cell? ⟨w.heap.size, 1, none⟩ = some (.slice none 0 0) := (blk_cell HG2.out 1).trans rfl
      have hf0 := blk_frozen HG2.out 0
      have hf1 := blk_frozen HG2.out 1
      go_wp2_with fail
      have hq := box2 HG2.out (.slice none 0 0) (.slice none 0 0)
      refine bodyPost_ret (results_motion rfl rfl rfl ((blk_cell hq 0).trans rfl) ((blk_cell hq 1).trans rfl)) rfl ?_
      exact ⟨_, _, rfl, Kd.R_nil _ _ _ _ _, Kd.R_nil _ _ _ _ _, (HB2.out.setCell (p := ⟨w.heap.size, 0, none⟩) (Nat.le_refl _) _).setCell (p := ⟨w.heap.size, 1, none⟩) (Nat.le_refl _) _⟩
def impl_ReadMotion.f (a0 : ByteArray) : Option (List Int × List SJ × Int) := readM a0
theorem impl_ReadMotion.calls (a0 : ByteArray) (r1 : List Int) (r2 : List SJ) (r3 : Int) (w : World) (h : impl_ReadMotion.f a0 = some (r1, r2, r3)) (htab : Env w) :
    Calls Tryz.prog 5 #[.string a0] w fun e w' => ∃ v0_ v1_ : Value, e = .returned (.tuple #[.agg #[v0_, v1_], .int .i64 r3]) ∧ Kd.R (Kd.int .u8) 5 w' w.heap.size (fun _ => True) v0_ r1 ∧ Kd.R k39 39 w' w.heap.size (fun _ => True) v1_ r2 ∧ Below w.heap.size w w' :=
  readM_walk a0 (r1, r2, r3) h w htab
end Go.Proofs.YtdgillfbdlmloaaGreatDoor.P
