/- The train that a text spells, as the program reads it: strings.Split, strings.Cut, two decimal numbers a word, TrainText; where what the readers ask of the world holds. -/
import Derived.Test.YtdgillfbdlmloaaDoorReadD
import Derived.Test.YtdgillfbdlmloaaDoorSplitS
import Derived.Test.YtdgillfbdlmloaaDoorTrainT
namespace Go.Proofs.YtdgillfbdlmloaaDoor.P
open Go.RowKit Go.Shelf Go.Proofs.YtdgillfbdlmloaaDoorW.PrintWords Go.Proofs.YtdgillfbdlmloaaDoorW.PrintLast Go.Proofs.YtdgillfbdlmloaaDoorW.PrintMore
set_option linter.unusedVariables false
set_option linter.unusedSimpArgs false
/-- What stands ahead of the stroke, and behind it. -/
def cutA (t : ByteArray) : ByteArray := ⟨(Lib.cut t.data.toList [47]).1.toArray⟩
def cutB (t : ByteArray) : ByteArray := ⟨(Lib.cut t.data.toList [47]).2.1.toArray⟩
/-- The number of teeth that a text spells. -/
def toothP (t : ByteArray) : Option Int := (dec64 t).bind fun v => if 8 ≤ v ∧ v ≤ 120 then some v else none
def pairW (t : ByteArray) : Option SP := (toothP (cutA t)).bind fun p => (toothP (cutB t)).bind fun q => some ⟨p, q⟩
/-- The pairs that the words spell, behind those that have come. -/
def goT : List ByteArray → List SP → Option (List SP)
  | [], acc => some acc
  | t :: r, acc => match pairW t with
    | none => none
    | some p => goT r (acc ++ [p])
def readT (a0 : ByteArray) : Option (List SP × Int) :=
  if a0.size ≤ 1048576 then (match goT (wordsB 32 a0) [] with
    | none => some ([], 5)
    | some l => (impl_TrainText.f l).bind fun t => if t.toList = a0.toList then some (l, 0) else some ([], 5)) else none
theorem cut_calls (t : ByteArray) (ht : t.size ≤ 1048576) (w : World) (hE : Env w) :
    Calls Tryd.prog 55 #[.string t, .string ⟨#[47]⟩] w fun e w' => (∃ b, e = .returned (.tuple #[.string (cutA t), .string (cutB t), .bool b])) ∧ Drawn0 w w' := by
  obtain ⟨_, ⟨m, hm⟩, _⟩ := hE
  refine (Tryd.strings_Cut t ⟨#[47]⟩ m w (by omega) hm).mono ?_
  rintro e w' ⟨rfl, n, rfl⟩
  exact ⟨⟨_, rfl⟩, ⟨n, rfl⟩⟩
theorem cutA_le (t : ByteArray) : (cutA t).size ≤ t.size := by
  show (Lib.cut t.data.toList [47]).1.toArray.size ≤ t.data.size
  unfold Lib.cut
  split <;> simp
  omega
theorem cutB_le (t : ByteArray) : (cutB t).size ≤ t.size := by
  show (Lib.cut t.data.toList [47]).2.1.toArray.size ≤ t.data.size
  unfold Lib.cut
  split <;> simp
/-- A number, read: whatever it is. -/
theorem readDec_any (t : ByteArray) (ht : t.size ≤ 281474976710656) (w : World) (hE : Env w) :
    Calls Tryd.prog 56 #[.string t] w fun e w' => ∃ n b, e = .returned (.tuple #[.int .i64 n, .bool b]) ∧ Below w.heap.size w w' := by
  cases h : dec64 t with
  | none =>
    refine (readDec_no t ht h w hE).mono ?_
    rintro e w' ⟨n, rfl, hb⟩
    exact ⟨n, _, rfl, hb⟩
  | some v =>
    refine (readDec_yes t ht v h w hE).mono ?_
    rintro e w' ⟨rfl, hb⟩
    exact ⟨v, _, rfl, hb⟩
/-- The cells of pairs, one behind the other. -/
def flatP (l : List SP) : List Value := l.flatMap fun x => [Value.int .i16 x.f0, Value.int .i16 x.f1]
theorem flatP_snoc (l : List SP) (x : SP) : flatP (l ++ [x]) = flatP l ++ [Value.int .i16 x.f0, Value.int .i16 x.f1] := by simp [flatP]
theorem repsP (R : SP → List Value → Prop) (hR : ∀ a b, R ⟨a, b⟩ [.int .i16 a, .int .i16 b]) (l : List SP) : Reps R 2 l (flatP l) := by
  rw [← List.reverse_reverse l]
  induction l.reverse with
  | nil => exact Reps.none _ _
  | cons x r ih =>
    rw [List.reverse_cons, flatP_snoc]
    exact ih.snoc (hR _ _) rfl
theorem rowP {W : World} {n₀ : Nat} {v : Value} {l : List SP} (h : W.ownsRow n₀ 57 2 v l.length (flatP l)) : Kd.R k57 57 W n₀ (fun _ => True) v l := ⟨fun _ _ => trivial, _, h, repsP _ (fun a b => k57_mkM _ _ _ ⟨a, b⟩) _⟩
theorem cell_two_new (w : World) (x y : Value) (t : TypeId) : ∀ j u, [x, y][j]? = some u → (w.alloc (.cells #[x, y] t)).cell? ((⟨w.heap.size, 0, none⟩ : Addr).add j) = some u := by
  intro j u hj
  match j, hj with
  | 0, hj =>
    have := blk_cell (blk_new w (.cells #[x, y] t)) 0
    simp at hj
    subst hj
    exact this
  | 1, hj =>
    have := blk_cell (blk_new w (.cells #[x, y] t)) 1
    simp at hj
    subst hj
    exact this
theorem i16_id (n : Int) (h : 0 ≤ n ∧ n ≤ 32767) : IntKind.i16.wrap n = n := by
  have h1 : n % 65536 = n := by omega
  show (if (true && decide (n % 65536 ≥ 32768)) = true then n % 65536 - 65536 else n % 65536) = n
  rw [h1, if_neg (by simp; omega)]
theorem addr_add (b n : Nat) : (⟨b, 0, none⟩ : Addr).add n = ⟨b, n, none⟩ := by
  unfold Addr.add
  split <;> simp_all
theorem drop_word (l : List ByteArray) (x : Int) (h0 : 0 ≤ x) (h1 : x < (l.length : Int)) : l.drop x.toNat = rdOf ByteArray.empty l x :: l.drop (x + 1).toNat := by
  have e : (x + 1).toNat = x.toNat + 1 := by omega
  rw [e, List.drop_eq_getElem_cons (show x.toNat < l.length by omega)]
  simp [rdOf, List.getD, List.getElem?_eq_getElem (show x.toNat < l.length by omega)]
theorem words_reads (gs : Nat) (ws : List ByteArray) (hl : ws.length ≤ 9223372036854775807) (W : World) (h : W.heap[gs]? = some (.cells (ws.map Value.string).toArray 9 (0, 0))) : Kd.C Kd.string W (some ⟨gs, 0, none⟩) ws.length ws := by
  have ho : W.ownsRow 0 9 1 (.slice (some ⟨gs, 0, none⟩) ws.length ws.length) ws.length (encs Value.string ws) := ⟨by simp [encs], .inr ⟨gs, ws.length, (ws.map Value.string).toArray, rfl, Nat.zero_le _, h, Nat.le_refl _, by unfold maxLen; omega, by simp, by simp only [encs, Nat.mul_one]; exact List.take_of_length_le (by simp)⟩⟩
  exact (Kd.R_reads' (ok := fun _ => True) (Kd.R_of_own (h1 := fun _ => rfl) ho (fun _ _ => trivial))).2.2
set_option maxRecDepth 100000 in
set_option maxHeartbeats 8000000 in
theorem readT_walk (a0 : ByteArray) (r : List SP × Int) (hr : readT a0 = some r) (w : World) (hE : Env w) :
    Calls Tryd.prog 27 #[.string a0] w fun e W' => ∃ v, e = .returned (.tuple #[v, .int .i64 r.2]) ∧ W'.ownsRow w.heap.size 57 2 v r.1.length (flatP r.1) ∧ Below w.heap.size w W' := by
  have hs : a0.size ≤ 1048576 := by
    unfold readT at hr
    by_cases hs : a0.size ≤ 1048576
    · exact hs
    · rw [if_neg hs] at hr
      cases hr
  unfold readT at hr
  rw [if_pos hs] at hr
  have HS := Aside0.mk hs
  have HE := Aside0.mk hE
  have HR := Aside0.mk hr
  have hws : ∀ t ∈ wordsB 32 a0, t.size ≤ 1048576 := fun t ht => by
    have := splitB_small _ _ _ _ t ht
    omega
  have hwl : 1 ≤ (wordsB 32 a0).length ∧ (wordsB 32 a0).length ≤ 1048577 := by
    have := wordsB_le 32 a0
    have := wordsB_len 32 a0
    omega
  have HWL := Aside0.mk hwl
  have HWS := Aside0.mk hws
  clear hs hE hr hws hwl
  go_enter Tryd.func27, Tryd.ntmps27
  go_wp2_with (first | (go_at_call 50; refine (split_calls 32 a0 HS.out _ (env_keep HE.out (below_alloc (Below.refl _ _) _) (Nat.le_refl _))).mono ?_; rintro e w1 ⟨rfl, rfl⟩))
  obtain ⟨ws, hwse⟩ : ∃ ws, ws = wordsB 32 a0 := ⟨_, rfl⟩
  have bW := blk_new (w.alloc (.cells #[] 57)) (.cells ((wordsB 32 a0).map Value.string).toArray 9)
  have bR := blk_alloc (blk_new w (.cells #[] 57)) (.cells ((wordsB 32 a0).map Value.string).toArray 9)
  have hB0 : Below w.heap.size w ((w.alloc (.cells #[] 57)).alloc (.cells ((wordsB 32 a0).map Value.string).toArray 9)) := below_alloc (below_alloc (Below.refl _ _) _) _
  simp only [World.size_alloc] at bW
  rw [← hwse] at bW bR hB0 HR HWL HWS ⊢
  generalize (w.alloc (.cells #[] 57)).alloc (.cells (ws.map Value.string).toArray 9) = W0 at *
  have HB0 := Aside0.mk hB0
  have HBW := Aside0.mk bW
  have HBR := Aside0.mk bR
  clear hB0 bW bR hwse
  go_loopg [4, 18] ws.length (fun kq v4 v18 w' => ∃ (x : Int) (acc : List SP), v18 = .int .i64 x ∧ Aside0 (0 ≤ x ∧ x + kq = ws.length ∧ acc.length = x.toNat ∧ goT (ws.drop x.toNat) acc = goT ws []) ∧ Aside0 (w'.ownsRow w.heap.size 57 2 v4 acc.length (flatP acc)) ∧ Aside0 (w'.heap[w.heap.size + 1]? = some (.cells (ws.map Value.string).toArray 9 (0, 0))) ∧ Aside0 (Below w.heap.size w w'))
  case atStart => exact ⟨0, [], rfl, ⟨by omega, by omega, rfl, rfl⟩, ⟨⟨rfl, .inr ⟨w.heap.size, 0, #[], rfl, Nat.le_refl _, HBR.out, Nat.le_refl _, by unfold maxLen; omega, rfl, rfl⟩⟩⟩, HBW, HB0⟩
  case round =>
    clear HBW HBR HB0
    obtain ⟨x, acc, rfl, HX, HROW, HW, HB⟩ := hrel
    cases gk with
    | zero =>
      have hx := HX.out
      have hb : decide (x < (ws.length : Int)) = false := decide_eq_false (by omega)
      have hgo : goT ws [] = some acc := by
        rw [← hx.2.2.2, List.drop_eq_nil_of_le (by omega)]
        rfl
      have hr := HR.out
      rw [hgo] at hr
      replace hr := Option.bind_eq_some_iff.mp hr
      obtain ⟨t, ht, hr⟩ := hr
      have hpos : 1 ≤ acc.length := by have := HWL.out.1; omega
      obtain ⟨g', cap', rfl⟩ : ∃ g' cap', u4 = .slice (some ⟨g', 0, none⟩) acc.length cap' := by
        rcases HROW.out.2 with ⟨_, e⟩ | ⟨g', cap', cur, e, _⟩
        · omega
        · exact ⟨g', cap', e⟩
      have hC := Kd.R_reads' (ok := fun _ => True) (rowP HROW.out)
      have HC := Aside0.mk hC
      have HT := Aside0.mk ht
      have HEW := Aside0.mk (env_keep HE.out HB.out (Nat.le_refl _))
      clear hx ht hgo hpos hC
      by_cases ct : t.toList = a0.toList
      · rw [if_pos ct] at hr
        obtain rfl := Option.some.inj hr
        have cb : (t.toList != a0.toList) = false := bne_eq_false_iff_eq.mpr ct
        have cb0 : (t.toList == a0.toList) = true := by simpa using ct
        clear ct hr
        go_wp2_with (go_at_call 11; refine (impl_TrainText.calls _ _ _ t _ HC.out.2.2 HC.out.2.1 HT.out HEW.out.1).mono ?_; rintro e W2 ⟨rfl, hb2⟩; have HB2 := Aside0.mk hb2; clear hb2)
        go_ret2
        exact ⟨_, rfl, own_move HROW.out (fun k hk => HB2.out.block k (own_lt HROW.out k hk)), HB.out.trans (HB2.out.mono HB.out.size)⟩
      · rw [if_neg ct] at hr
        obtain rfl := Option.some.inj hr
        have cb : (t.toList != a0.toList) = true := by simpa using ct
        have cb0 : (t.toList == a0.toList) = false := by simpa using ct
        clear ct hr
        go_wp2_with (go_at_call 11; refine (impl_TrainText.calls _ _ _ t _ HC.out.2.2 HC.out.2.1 HT.out HEW.out.1).mono ?_; rintro e W2 ⟨rfl, hb2⟩; have HB2 := Aside0.mk hb2; clear hb2)
        go_ret2
        exact ⟨_, rfl, World.ownsRow_nil _ _ _ _, HB.out.trans (HB2.out.mono HB.out.size)⟩
    | succ k1 =>
      have hx := HX.out
      have p1 : 0 ≤ x := hx.1
      have q1 : x < (ws.length : Int) := by omega
      have hd := drop_word ws x p1 q1
      have hb : decide (x < (ws.length : Int)) = true := decide_eq_true q1
      obtain ⟨ad, e, hcs⟩ := Kd.at_string (words_reads _ ws (by have := HWL.out.2; omega) wr HW.out) x p1 q1
      cases e
      rw [addr_add] at hcs
      have hw : wrap64 (x + 1) = x + 1 := Go.IntWalk.wrap64_in _ (by have := HWL.out.2; omega)
      have htl := HWS.out (rdOf ByteArray.empty ws x) (by have := List.mem_of_mem_drop (hd ▸ List.mem_cons_self (a := rdOf ByteArray.empty ws x)); exact this)
      have hgo := hx.2.2.2
      rw [hd] at hgo
      simp only [goT] at hgo
      generalize rdOf ByteArray.empty ws x = t at *
      have hla := cutA_le t
      have hlb := cutB_le t
      have HLA := Aside0.mk (show (cutA t).size ≤ 281474976710656 by omega)
      have HLB := Aside0.mk (show (cutB t).size ≤ 281474976710656 by omega)
      have HTL := Aside0.mk htl
      have HEW := Aside0.mk (env_keep HE.out HB.out (Nat.le_refl _))
      cases hp : pairW t with
      | none =>
        have hr := HR.out
        rw [hp] at hgo
        rw [← hgo] at hr
        obtain rfl := Option.some.inj hr
        clear hr hgo HR HX hx hd
        have HB1 := Aside0.mk (fun nd : Nat => pw_below_drewN HB.out nd)
        cases hda : dec64 (cutA t) with
        | none =>
          have HA := Aside0.mk hda
          clear hda hp hla hlb htl hw
          replace p1 := eq_true p1
          replace q1 := eq_true q1
          go_wp2_with (first | (go_at_call 55; refine (cut_calls t HTL.out _ HEW.out).mono ?_; rintro e W1 ⟨⟨bc, rfl⟩, ⟨nd, rfl⟩⟩))
          refine (readDec_no (cutA t) HLA.out HA.out _ (env_keep HE.out (HB1.out nd) (Nat.le_refl _))).mono ?_
          rintro e W2 ⟨na, rfl, hb2⟩
          have HB2 := Aside0.mk ((HB1.out nd).trans (hb2.mono (HB1.out nd).size))
          clear hb2
          go_wp2_with fail
          refine (readDec_any (cutB t) HLB.out _ (env_keep HE.out HB2.out (Nat.le_refl _))).mono ?_
          rintro e W3 ⟨nb, bb, rfl, hb3⟩
          have HB3 := Aside0.mk (HB2.out.trans (hb3.mono HB2.out.size))
          clear hb3
          go_wp2_with fail
          go_ret2
          exact ⟨_, rfl, World.ownsRow_nil _ _ _ _, HB3.out⟩
        | some va =>
          have HA := Aside0.mk hda
          cases hdb : dec64 (cutB t) with
          | none =>
            have HBN := Aside0.mk hdb
            clear hda hdb hp hla hlb htl hw
            replace p1 := eq_true p1
            replace q1 := eq_true q1
            go_wp2_with (first | (go_at_call 55; refine (cut_calls t HTL.out _ HEW.out).mono ?_; rintro e W1 ⟨⟨bc, rfl⟩, ⟨nd, rfl⟩⟩))
            refine (readDec_yes (cutA t) HLA.out va HA.out _ (env_keep HE.out (HB1.out nd) (Nat.le_refl _))).mono ?_
            rintro e W2 ⟨rfl, hb2⟩
            have HB2 := Aside0.mk ((HB1.out nd).trans (hb2.mono (HB1.out nd).size))
            clear hb2
            go_wp2_with fail
            refine (readDec_no (cutB t) HLB.out HBN.out _ (env_keep HE.out HB2.out (Nat.le_refl _))).mono ?_
            rintro e W3 ⟨nb, rfl, hb3⟩
            have HB3 := Aside0.mk (HB2.out.trans (hb3.mono HB2.out.size))
            clear hb3
            go_wp2_with fail
            go_ret2
            exact ⟨_, rfl, World.ownsRow_nil _ _ _ _, HB3.out⟩
          | some vb =>
            have HBN := Aside0.mk hdb
            by_cases hia : 8 ≤ va ∧ va ≤ 120
            · by_cases hib : 8 ≤ vb ∧ vb ≤ 120
              · unfold pairW toothP at hp
                rw [hda, hdb, Option.bind_some, Option.bind_some, if_pos hia, if_pos hib] at hp
                cases hp
              · have HIA := Aside0.mk (show decide (8 ≤ va ∧ va ≤ 120) = true from decide_eq_true hia)
                have HIB := Aside0.mk (show decide (8 ≤ vb ∧ vb ≤ 120) = false from decide_eq_false hib)
                clear hda hdb hp hla hlb htl hw hia hib
                replace p1 := eq_true p1
                replace q1 := eq_true q1
                go_wp2_with (first | (go_at_call 55; refine (cut_calls t HTL.out _ HEW.out).mono ?_; rintro e W1 ⟨⟨bc, rfl⟩, ⟨nd, rfl⟩⟩))
                refine (readDec_yes (cutA t) HLA.out va HA.out _ (env_keep HE.out (HB1.out nd) (Nat.le_refl _))).mono ?_
                rintro e W2 ⟨rfl, hb2⟩
                have HB2 := Aside0.mk ((HB1.out nd).trans (hb2.mono (HB1.out nd).size))
                clear hb2
                go_wp2_with fail
                refine (readDec_yes (cutB t) HLB.out vb HBN.out _ (env_keep HE.out HB2.out (Nat.le_refl _))).mono ?_
                rintro e W3 ⟨rfl, hb3⟩
                have HB3 := Aside0.mk (HB2.out.trans (hb3.mono HB2.out.size))
                clear hb3
                go_wp2_with fail
                refine (withinG_calls va 8 120 true HIA.out _).mono ?_
                rintro e w' ⟨rfl, nd4, rfl⟩
                go_wp2_with fail
                refine (withinG_calls vb 8 120 false HIB.out _).mono ?_
                rintro e w' ⟨rfl, nd5, rfl⟩
                go_wp2_with fail
                go_ret2
                exact ⟨_, rfl, World.ownsRow_nil _ _ _ _, pw_below_drewN HB3.out _⟩
            · have HIA := Aside0.mk (show decide (8 ≤ va ∧ va ≤ 120) = false from decide_eq_false hia)
              clear hda hdb hp hla hlb htl hw hia
              replace p1 := eq_true p1
              replace q1 := eq_true q1
              go_wp2_with (first | (go_at_call 55; refine (cut_calls t HTL.out _ HEW.out).mono ?_; rintro e W1 ⟨⟨bc, rfl⟩, ⟨nd, rfl⟩⟩))
              refine (readDec_yes (cutA t) HLA.out va HA.out _ (env_keep HE.out (HB1.out nd) (Nat.le_refl _))).mono ?_
              rintro e W2 ⟨rfl, hb2⟩
              have HB2 := Aside0.mk ((HB1.out nd).trans (hb2.mono (HB1.out nd).size))
              clear hb2
              go_wp2_with fail
              refine (readDec_yes (cutB t) HLB.out vb HBN.out _ (env_keep HE.out HB2.out (Nat.le_refl _))).mono ?_
              rintro e W3 ⟨rfl, hb3⟩
              have HB3 := Aside0.mk (HB2.out.trans (hb3.mono HB2.out.size))
              clear hb3
              go_wp2_with fail
              refine (withinG_calls va 8 120 false HIA.out _).mono ?_
              rintro e w' ⟨rfl, nd4, rfl⟩
              go_wp2_with fail
              go_ret2
              exact ⟨_, rfl, World.ownsRow_nil _ _ _ _, pw_below_drewN HB3.out nd4⟩
      | some p =>
        rw [hp] at hgo
        unfold pairW toothP at hp
        replace hp := Option.bind_eq_some_iff.mp hp
        obtain ⟨pa, ha, hp⟩ := hp
        replace hp := Option.bind_eq_some_iff.mp hp
        obtain ⟨pb, hb2, hp⟩ := hp
        obtain rfl := Option.some.inj hp
        replace ha := Option.bind_eq_some_iff.mp ha
        obtain ⟨va, hva, ha⟩ := ha
        replace hb2 := Option.bind_eq_some_iff.mp hb2
        obtain ⟨vb, hvb, hb2⟩ := hb2
        split at ha
        · rename_i hia
          obtain rfl := Option.some.inj ha
          split at hb2
          · rename_i hib
            obtain rfl := Option.some.inj hb2
            have HA := Aside0.mk hva
            have HBB := Aside0.mk hvb
            have HIA := Aside0.mk (show decide (8 ≤ va ∧ va ≤ 120) = true from decide_eq_true hia)
            have HIB := Aside0.mk (show decide (8 ≤ vb ∧ vb ≤ 120) = true from decide_eq_true hib)
            have HN := Aside0.mk (show 0 ≤ wrap64 (x + 1) ∧ wrap64 (x + 1) + k1 = ws.length ∧ (acc ++ [(⟨va, vb⟩ : SP)]).length = (wrap64 (x + 1)).toNat ∧ goT (ws.drop (wrap64 (x + 1)).toNat) (acc ++ [⟨va, vb⟩]) = goT ws [] by
              rw [hw]
              exact ⟨by omega, by omega, by rw [List.length_append]; simp; omega, hgo⟩)
            have HAL := Aside0.mk (show acc.length + 1 ≤ 1048577 by have := HWL.out.2; omega)
            have hca : IntKind.i16.wrap va = va := i16_id va (by omega)
            have hcb : IntKind.i16.wrap vb = vb := i16_id vb (by omega)
            obtain ⟨i0, hi, hz0, hz1, hz2⟩ := info_parts info57
            clear hx hd hw HX hgo ha hb2 hp hva hvb hia hib hla hlb htl
            replace p1 := eq_true p1
            replace q1 := eq_true q1
            go_wp2_with (first | (go_at_call 55; refine (cut_calls t HTL.out _ HEW.out).mono ?_; rintro e W1 ⟨⟨bc, rfl⟩, ⟨nd, rfl⟩⟩))
            have HB1 := Aside0.mk (pw_below_drewN HB.out nd)
            refine (readDec_yes (cutA t) HLA.out va HA.out _ (env_keep HE.out HB1.out (Nat.le_refl _))).mono ?_
            rintro e W2 ⟨rfl, hb2⟩
            have HB2 := Aside0.mk (HB1.out.trans (hb2.mono HB1.out.size))
            have hbx2 : Below wr.heap.size wr W2 := (pw_below_drewN (Below.refl wr.heap.size wr) nd).trans hb2
            have HBX2 := Aside0.mk hbx2
            clear hb2 hbx2
            go_wp2_with fail
            refine (readDec_yes (cutB t) HLB.out vb HBB.out _ (env_keep HE.out HB2.out (Nat.le_refl _))).mono ?_
            rintro e W3 ⟨rfl, hb3⟩
            have HB3 := Aside0.mk (HB2.out.trans (hb3.mono HB2.out.size))
            have HBX3 := Aside0.mk (HBX2.out.trans (hb3.mono HBX2.out.size))
            clear hb3
            go_wp2_with fail
            refine (withinG_calls va 8 120 true HIA.out _).mono ?_
            rintro e w' ⟨rfl, nd4, rfl⟩
            go_wp2_with fail
            refine (withinG_calls vb 8 120 true HIB.out _).mono ?_
            rintro e w' ⟨rfl, nd5, rfl⟩
            obtain ⟨W5, hW5⟩ : ∃ W5, W5 = (W3.drewN nd4).drewN nd5 := ⟨_, rfl⟩
            have HB5 := Aside0.mk (show Below w.heap.size w W5 by rw [hW5]; exact pw_below_drewN (pw_below_drewN HB3.out nd4) nd5)
            have HBX5 := Aside0.mk (show Below wr.heap.size wr W5 by rw [hW5]; exact pw_below_drewN (pw_below_drewN HBX3.out nd4) nd5)
            rw [← hW5]
            clear hW5
            have hlt5 : ∀ k, k < wr.heap.size → W5.heap[k]? = wr.heap[k]? := fun k hk => HBX5.out.block k hk
            have HROW5 := Aside0.mk (own_move HROW.out (fun k hk => hlt5 k (own_lt HROW.out k hk)))
            have HW5 := Aside0.mk ((hlt5 _ (Array.getElem?_eq_some_iff.1 HW.out).1).trans HW.out)
            clear hlt5
            go_wp2_with (at_builtin; go_loud (refine wpList_append_own _ rfl _ _ 26 rfl w.heap.size 57 i0 _ 2 4 Tryd.underlying26 hi hz0 hz1 hz2 rfl (by decide) _ _ _ rfl (HROW5.out.alloc _) ⟨W5.heap.size, 0, none⟩ 1 1 [.int .i16 va, .int .i16 vb] rfl rfl (cell_two_new _ _ _ _) (by simp [Value.oneCell']) (by have := HAL.out; unfold maxLen; omega) (by have := HAL.out; omega) (by have := HB5.out.size; simp; omega) ?_); intro v' w6 hown' hgrow _; have HO6 := Aside0.mk hown'; have HG6 := Aside0.mk hgrow; clear hown' hgrow)
            go_roundg k1
            case measure => omega
            case rel =>
              refine ⟨wrap64 (x + 1), acc ++ [⟨va, vb⟩], rfl, HN, ⟨?_⟩, ⟨blk_grown (blk_alloc HW5.out _) HG6.out (row_ne HROW5.out HW5.out (by decide))⟩, ⟨?_⟩⟩
              · rw [flatP_snoc, List.length_append]
                exact HO6.out
              · exact (HB5.out.alloc HB5.out.size _).grown HG6.out (by have := HB5.out.size; simp; omega) (fun j ej => own_base HROW5.out j ej)
          · cases hb2
        · cases ha
def impl_ReadTrain.f (a0 : ByteArray) : Option (List SP × Int) := readT a0
theorem impl_ReadTrain.calls (a0 : ByteArray) (r1 : List SP) (r2 : Int) (w : World) (h : impl_ReadTrain.f a0 = some (r1, r2)) (htab : Env w) :
    Calls Tryd.prog 27 #[.string a0] w fun e w' => ∃ v0_ : Value, e = .returned (.tuple #[v0_, .int .i64 r2]) ∧ Kd.R k57 57 w' w.heap.size (fun _ => True) v0_ r1 ∧ Below w.heap.size w w' := by
  refine (readT_walk a0 (r1, r2) h w htab).mono ?_
  rintro e w' ⟨v, rfl, hrow, hb⟩
  exact ⟨v, rfl, rowP hrow, hb⟩
end Go.Proofs.YtdgillfbdlmloaaDoor.P
