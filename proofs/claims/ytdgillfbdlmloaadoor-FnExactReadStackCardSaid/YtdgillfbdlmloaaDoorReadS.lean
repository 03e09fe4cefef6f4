/- The stack that a text spells, as the program reads it: a range over slices.Backward(strings.Split(..)), strconv.ParseUint, StackText; where what the readers ask of the world holds. -/
import Derived.Test.YtdgillfbdlmloaaDoorParseS
import Derived.Test.YtdgillfbdlmloaaDoorBkS
import Derived.Lib.SplitLaws
namespace Go.Proofs.YtdgillfbdlmloaaDoor.P
open Go.RowKit Go.Shelf Go.Proofs.YtdgillfbdlmloaaDoorW.PrintWords Go.Proofs.YtdgillfbdlmloaaDoorW.PrintLast Go.Proofs.YtdgillfbdlmloaaDoorW.PrintMore
attribute [local go_sem] Oper.semAt_some
set_option linter.unusedVariables false
set_option linter.unusedSimpArgs false
/-- The words between the colons. -/
def wordsB (c : UInt8) (s : ByteArray) : List ByteArray := Lib.splitB ⟨#[c]⟩ 0 (Lib.countB s ⟨#[c]⟩) s
theorem wordsB_len (c : UInt8) (s : ByteArray) : (wordsB c s).length = Lib.countB s ⟨#[c]⟩ + 1 := Lib.splitB_all ⟨#[c]⟩ (Nat.le_refl 1) 0 _ s rfl
theorem wordsB_le (c : UInt8) (s : ByteArray) : (wordsB c s).length ≤ s.size + 1 := by
  rw [wordsB_len]
  exact Nat.succ_le_succ (Lib.countB_le ⟨#[c]⟩ (Nat.le_refl 1) _ s (Nat.le_refl _))
theorem splitB_small (sep : ByteArray) (save : Nat) : ∀ (k : Nat) (s : ByteArray), ∀ t ∈ Lib.splitB sep save k s, t.size ≤ s.size := by
  intro k
  induction k with
  | zero =>
    intro s t ht
    rw [Lib.splitB_zero, List.mem_singleton] at ht
    subst ht
    exact Nat.le_refl _
  | succ k ih =>
    intro s t ht
    unfold Lib.splitB at ht
    split at ht
    · rw [List.mem_singleton] at ht
      subst ht
      exact Nat.le_refl _
    · rw [List.mem_cons] at ht
      rcases ht with rfl | ht
      · rw [ByteArray.size_extract]
        omega
      · have := ih _ t ht
        rw [ByteArray.size_extract] at this
        omega
theorem split_calls (c : UInt8) (s : ByteArray) (hs : s.size ≤ 1048576) (w : World) (hE : Env w) :
    Calls Tryd.prog 50 #[.string s, .string ⟨#[c]⟩] w fun e w' => e = .returned (.slice (some ⟨w.heap.size, 0, none⟩) (wordsB c s).length (wordsB c s).length) ∧ w' = w.alloc (.cells ((wordsB c s).map Value.string).toArray 9) := by
  obtain ⟨_, ⟨m, hm⟩, _⟩ := hE
  rw [wordsB_len]
  exact Tryd.strings_Split s ⟨#[c]⟩ m w (by omega) hm (Nat.le_refl 1)
/-- A word with its place, no longer than a text may be. -/
abbrev Wd := { x : Int × ByteArray // x.2.size ≤ 281474976710656 }
theorem rdOf_small {ws : List ByteArray} {B : Nat} (h : ∀ t ∈ ws, t.size ≤ B) (i : Int) : (rdOf ByteArray.empty ws i).size ≤ B := by
  unfold rdOf
  rw [List.getD_eq_getElem?_getD]
  cases he : ws[i.toNat]? with
  | none => exact Nat.zero_le _
  | some t => exact h t (List.mem_of_getElem? he)
/-- The j-th word from behind. -/
def wd (ws : List ByteArray) (h : ∀ t ∈ ws, t.size ≤ 281474976710656) (j : Nat) : Wd := ⟨bkS ws j, rdOf_small h _⟩
/-- The number that a word spells, or 0. -/
def num8 (t : ByteArray) : Int := (((pu8 t).getD 0 : Nat) : Int) % 256
/-- The stack that the words spell, from behind. -/
def numsR (ws : List ByteArray) : List Int := (upto (bkS ws) ws.length).map fun x => num8 x.2
def readS (a0 : ByteArray) : Option (List Int × Int) :=
  if a0.size ≤ 1048576 then (if ((wordsB 58 a0).all fun t => (pu8 t).isSome) = true then (impl_StackText.f (numsR (wordsB 58 a0))).bind fun t => if t.toList = a0.toList then some (numsR (wordsB 58 a0), 0) else some ([], 5) else some ([], 5)) else none
theorem results_cell2 {fn : Func} {p q : Tmp} {t1 t2 : TypeId} (h : fn.results = #[.cell p t1, .cell q t2]) (tmps : Array Value) (P : Program) (w : World) (a b : Addr) (v1 v2 : Value) (hp : tmps.getD p undef = .pointer (some a)) (hq : tmps.getD q undef = .pointer (some b)) (h1 : (loadVar t1 a).run P w = .ok v1 w) (h2 : (loadVar t2 b).run P w = .ok v2 w) :
    (results fn tmps).run P w = .ok (.tuple #[v1, v2]) w := by
  have hp' : tmps[p]?.getD undef = .pointer (some a) := by simpa using hp
  have hq' : tmps[q]?.getD undef = .pointer (some b) := by simpa using hq
  simp only [results, h]
  simp [Sem.run_bind, Result.andThen, hp', hq', asAddr, h1, h2]
theorem load_stack (a : Addr) (v : Value) (w : World) (h : w.cell? a = some v) : (loadVar 32 a).run Tryd.prog w = .ok v w := by
  simp [loadVar, go_sem, h]
theorem load_i64 (a : Addr) (v : Value) (w : World) (h : w.cell? a = some v) : (loadVar 2 a).run Tryd.prog w = .ok v w := by
  simp [loadVar, go_sem, h]
theorem cell_put {W : World} {D : Nat} {o o' : Obj} (hK : W.heap[D]? = some o) (h1 : o.isCells = false) {B : Nat} {t : TypeId} {v : Value} (h : Boxed W B t v) : (W.putObj D o').cell? ⟨B, 0, none⟩ = some v := Boxed.cell (blk_put hK h1 h rfl)
theorem six_blk (w : World) (o0 o1 o2 o3 o4 o5 : Obj) (W0 : World) (h : W0 = (((((w.alloc o0).alloc o1).alloc o2).alloc o3).alloc o4).alloc o5) :
    (W0.heap[w.heap.size]? = some o0 ∧ W0.heap[w.heap.size + 1]? = some o1 ∧ W0.heap[w.heap.size + 1 + 1]? = some o2 ∧ W0.heap[w.heap.size + 1 + 1 + 1]? = some o3 ∧ W0.heap[w.heap.size + 1 + 1 + 1 + 1]? = some o4 ∧ W0.heap[w.heap.size + 1 + 1 + 1 + 1 + 1]? = some o5) ∧ W0.heap.size = w.heap.size + 6 ∧ Below w.heap.size w W0 := by
  subst h
  have a1 := blk_new (w.alloc o0) o1
  have a2 := blk_new ((w.alloc o0).alloc o1) o2
  have a3 := blk_new (((w.alloc o0).alloc o1).alloc o2) o3
  have a4 := blk_new ((((w.alloc o0).alloc o1).alloc o2).alloc o3) o4
  have a5 := blk_new (((((w.alloc o0).alloc o1).alloc o2).alloc o3).alloc o4) o5
  simp only [World.size_alloc] at a1 a2 a3 a4 a5
  exact ⟨⟨blk_alloc (blk_alloc (blk_alloc (blk_alloc (blk_alloc (blk_new w o0) _) _) _) _) _, blk_alloc (blk_alloc (blk_alloc (blk_alloc a1 _) _) _) _, blk_alloc (blk_alloc (blk_alloc a2 _) _) _, blk_alloc (blk_alloc a3 _) _, blk_alloc a4 _, a5⟩, by simp, below_alloc (below_alloc (below_alloc (below_alloc (below_alloc (below_alloc (Below.refl _ _) _) _) _) _) _) _⟩
/-- What the words that have come leave in the stack. -/
def encN (l : List Wd) : List Value := l.map fun x => Value.int .u8 (num8 x.1.2)
theorem encN_snoc (l : List Wd) (x : Wd) : encN (l ++ [x]) = encN l ++ [Value.int .u8 (num8 x.1.2)] := by simp [encN]
theorem row_ne {W : World} {n₀ e size k g t : Nat} {v : Value} {xs : List Value} {cs : Array Value} (hr : W.ownsRow n₀ e size v k xs) (hb : W.heap[g]? = some (.cells cs t (0, 0))) (ht : t ≠ e) : some g ≠ v.ownBlock := fun he => by
  obtain ⟨c, hc⟩ := own_typed hr g he.symm
  rw [hb] at hc
  injection hc with hc
  injection hc with _ hc
  exact ht hc
theorem keeps_below {W W1 : World} (hb : Below W.heap.size W W1) : KeepsOthers W W1 := ⟨hb.size, fun k o hk _ => (hb.block k (Array.getElem?_eq_some_iff.1 hk).1).trans hk⟩
theorem qs_own {α : Type} {gs Bs : Nat} {ws : List ByteArray} {B : Nat} : OwnFrom B (fun (_ : List α) W => QS gs Bs ws W) := fun s A W' row hs hg hr => by
  refine ⟨blk_grown hs.1 hg (fun e => ?_), blk_grown hs.2 hg (fun e => ?_)⟩
  · obtain ⟨_, o, ho, hc⟩ := hr _ e.symm
    rw [hs.1] at ho
    cases ho
    cases hc
  · obtain ⟨_, o, ho, hc⟩ := hr _ e.symm
    rw [hs.2] at ho
    cases ho
    cases hc
set_option maxRecDepth 100000 in
set_option maxHeartbeats 8000000 in
theorem readS_in (n : Nat) (hn : 3 ≤ n) (a0 : ByteArray) (r : List Int × Int) (hr : readS a0 = some r) (w : World) (hE : Env w) :
    CallsIn Fence.wide n Tryd.prog 23 #[.string a0] w fun e W' => ∃ v, e = .returned (.tuple #[v, .int .i64 r.2]) ∧ W'.ownsRow w.heap.size 5 1 v r.1.length (r.1.map (Value.int .u8)) ∧ Below w.heap.size w W' := by
  have h1 : 1 ≤ n := by omega
  have hs : a0.size ≤ 1048576 := by
    unfold readS at hr
    by_cases hs : a0.size ≤ 1048576
    · exact hs
    · rw [if_neg hs] at hr
      cases hr
  have HS := Aside0.mk hs
  have HE := Aside0.mk hE
  have HR := Aside0.mk hr
  have hro : Fence.wide.round = none := rfl
  have hf1 : Fence.wide.fn 50 := trivial
  have hf2 : Fence.wide.fn 49 := trivial
  have hBA : ∀ o1 o2 o3 o4, Below w.heap.size w ((((w.alloc o1).alloc o2).alloc o3).alloc o4) := fun o1 o2 o3 o4 => below_alloc (below_alloc (below_alloc (below_alloc (Below.refl _ _) _) _) _) _
  have HBA := Aside0.mk hBA
  clear hr hE hs hBA
  refine callsIn_of_wp_marks Tryd.func23 rfl trivial ?_ hro
  simp only [Tryd.ntmps23, List.size_toArray, List.length_cons, List.length_nil, Nat.reduceAdd, Nat.reduceSub, Array.replicate_succ, Array.replicate_zero, List.push_toArray, List.append_toArray, List.nil_append, List.cons_append]
  gi_wp2_with (first | (gi_at_call 50; refine ((callsIn_wide (n := n - 1)).2 (split_calls 58 a0 HS.out _ (env_keep HE.out (HBA.out _ _ _ _) (Nat.le_refl _)))).mono ?_; rintro e w1 ⟨rfl, rfl⟩) | (gi_at_call 49; refine (bkS_in Fence.wide (n - 1) trivial hro _ _ _ _).mono ?_; rintro e w' ⟨rfl, rfl⟩))
  have hws : ∀ t ∈ wordsB 58 a0, t.size ≤ 281474976710656 := fun t ht => by
    have := splitB_small _ _ _ _ t ht
    have := HS.out
    omega
  have hwl : (wordsB 58 a0).length ≤ 1048577 := by
    have := wordsB_le 58 a0
    have := HS.out
    omega
  obtain ⟨ws, hwse⟩ : ∃ ws, ws = wordsB 58 a0 := ⟨_, rfl⟩
  obtain ⟨g, hg⟩ : ∃ g, g = w.heap.size := ⟨_, rfl⟩
  obtain ⟨W0, hW0⟩ : ∃ W0, W0 = ((((((w.alloc (.cells #[.slice none 0 0] 32)).alloc (.cells #[.int .i64 0] 2)).alloc (.cells #[] 5)).alloc (.cells #[.slice (some ⟨w.heap.size + 1 + 1, 0, none⟩) 0 0] 32)).alloc (.cells ((wordsB 58 a0).map Value.string).toArray 9)).alloc (.cells #[.slice (some ⟨w.heap.size + 1 + 1 + 1 + 1, 0, none⟩) (wordsB 58 a0).length (wordsB 58 a0).length] 60)) := ⟨_, rfl⟩
  obtain ⟨⟨bR0, bR1, bE, bS, bQ1, bQ2⟩, hSz, hB0⟩ := six_blk w _ _ _ _ _ _ W0 hW0
  rw [← hW0]
  rw [← hwse] at bQ1 bQ2 hws hwl ⊢
  rw [← hg] at bR0 bR1 bE bS bQ1 bQ2 hSz hB0 ⊢
  clear hW0 HBA
  have HMX := Aside0.mk (show Tryd.prog.follows .mixedOrders = true by kernel_rfl)
  have HG := Aside0.mk hg
  have HWSE := Aside0.mk hwse
  clear hg hwse
  have hQ0 : QS (g + 1 + 1 + 1 + 1) (g + 1 + 1 + 1 + 1 + 1) ws W0 := ⟨bQ1, bQ2⟩
  refine wpIn_rangeFunc_ownG hro h1 (gf := 79) (lb := #[.pointer (some ⟨g + 1 + 1 + 1 + 1 + 1, 0, none⟩)]) rfl trivial (enters_of Tryd.func79 (by kernel_rfl) rfl)
    (bkS_stops (fun x : Wd => x.1) (wd ws hws) Fence.wide (n - 1) trivial hro (by omega) (g + 1 + 1 + 1 + 1 + 1) (some ⟨g + 1 + 1 + 1 + 1, 0, none⟩) ws.length ws (fun _ _ => rfl) (by omega) (QS (g + 1 + 1 + 1 + 1) (g + 1 + 1 + 1 + 1 + 1) ws) (fun _ h => QS_reads (by omega) h) (KQ g (g + 1 + 1 + 1 + 1) (g + 1 + 1 + 1 + 1 + 1) ws) (fun _ _ h => h.2) W0 (fun _ hb => QS_below hQ0 hb))
    (fun h k => KQ_t h k) (KQ_b (by omega)) (Below.refl _ _) (fun _ => rfl)
    (fun pre W => (∃ v, Boxed W (g + 1 + 1 + 1) 32 v ∧ W.ownsRow g 5 1 v pre.length (encN pre) ∧ (∀ x ∈ pre, (pu8 x.1.2).isSome = true)) ∧ Boxed W g 32 (.slice none 0 0) ∧ Boxed W (g + 1) 2 (.int .i64 0) ∧ QS (g + 1 + 1 + 1 + 1) (g + 1 + 1 + 1 + 1 + 1) ws W ∧ Below g w W)
    (fun c pre W => (c = .ret ∧ ∃ x ∈ pre, pu8 x.1.2 = none) ∧ Boxed W g 32 (.slice none 0 0) ∧ Boxed W (g + 1) 2 (.int .i64 5) ∧ Below g w W)
    (OwnFrom.and (Own.from (holdsRow_own _ _ _ _ _ _ _ _) _) (OwnFrom.and (Own.from (boxed_own _ _ _) _) (OwnFrom.and (Own.from (boxed_own _ _ _) _) (OwnFrom.and qs_own (ownFrom_below (Nat.le_of_eq HG.out) (by omega))))))
    (fun c => OwnFrom.and (ownFrom_pure _ (fun pre : List Wd => c = .ret ∧ ∃ x ∈ pre, pu8 x.1.2 = none)) (OwnFrom.and (Own.from (boxed_own _ _ _) _) (OwnFrom.and (Own.from (boxed_own _ _ _) _) (ownFrom_below (Nat.le_of_eq HG.out) (by omega)))))
    ⟨⟨_, bS, ⟨rfl, .inr ⟨g + 1 + 1, 0, #[], rfl, by omega, bE, Nat.le_refl _, by unfold maxLen; omega, rfl, rfl⟩⟩, by simp⟩, bR0, bR1, hQ0, hB0⟩
    (fun x => { tmps := #[.string a0, undef, .pointer (some ⟨g, 0, none⟩), .pointer (some ⟨g + 1, 0, none⟩), .pointer (some ⟨g + 1 + 1 + 1, 0, none⟩), undef, .string x.1.2, undef, undef, .slice (some ⟨g + 1 + 1, 0, none⟩) 0 0, .string a0, .slice (some ⟨g + 1 + 1 + 1 + 1, 0, none⟩) ws.length ws.length, .func (.func 79) #[] #[.pointer (some ⟨g + 1 + 1 + 1 + 1 + 1, 0, none⟩)], .int .i64 x.1.1, .string x.1.2, undef, undef, undef, undef, undef, undef, undef, undef, undef, undef, undef, undef, undef, undef, undef, undef, undef], defers := [] }) ?assign ?body ?done ?stop
  case assign =>
    intro l x W K hK
    gi_wp2
    exact hK
  case body =>
    rintro l pre x W ⟨⟨v, hv, hrow, hok⟩, hR0, hR1, hQ, hB⟩ hlt
    have hc := hv.cell
    have hf := hv.frozen
    have hc0 := hR0.cell
    have hf0 := hR0.frozen
    have hc1 := hR1.cell
    have hf1' := hR1.frozen
    have HEW := Aside0.mk (env_keep HE.out hB (by have := HG.out; omega))
    have hf3 : Fence.wide.fn 51 := trivial
    have h2 : 1 ≤ n - 1 - 1 := by omega
    have hBS : g ≤ W.heap.size := by
      have := hB.size
      have := HG.out
      omega
    cases hp : pu8 x.1.2 with
    | none =>
      have HP := Aside0.mk hp
      clear hp
      gi_wp2_with (gi_at_call 51; refine (CallsIn.inRound l ((callsIn_wide (n := _)).2 (pu8_no x.1.2 x.2 HP.out _ HEW.out))).mono ?_; rintro e W1 ⟨N, v1, rfl, hb1⟩; have h10 := (hb1.block _ hR0.lt).trans hR0; have h11 := (hb1.block _ hR1.lt).trans hR1; have hx0 : W1.cell? ⟨g, 0, none⟩ = some (.slice none 0 0) := Boxed.cell h10; have hx1 : W1.cell? ⟨g + 1, 0, none⟩ = some (.int .i64 0) := Boxed.cell h11; have hx2 : W1.frozen? ⟨g, 0, none⟩ = false := Boxed.frozen h10; have hx3 : W1.frozen? ⟨g + 1, 0, none⟩ = false := Boxed.frozen h11)
      exact ⟨((keeps_below hb1).trans ((KeepsOthers.setCell _ _ _).trans (KeepsOthers.setCell _ _ _))).from _, ⟨rfl, x, by simp, HP.out⟩, (Boxed.set _ h10).other (show g ≠ g + 1 by omega) _, Boxed.set _ (Boxed.other h11 (show g + 1 ≠ g by omega) _), ((hB.trans (hb1.mono (by have := HG.out; omega))).setCell (p := ⟨g, 0, none⟩) (Nat.le_refl _) _).setCell (p := ⟨g + 1, 0, none⟩) (Nat.le_succ _) _⟩
    | some u =>
      have HP := Aside0.mk hp
      clear hp
      obtain ⟨i0, hi, hz0, hz1, hz2⟩ := info_parts (show (Tryd.prog.info? 5).map (fun i => (i.zero, i.size, i.bytes)) = some (some (.int .u8 0), 1, 1) by kernel_rfl)
      gi_wp2_with (first | (gi_at_call 51; refine (CallsIn.inRound l ((callsIn_wide (n := _)).2 (pu8_yes x.1.2 x.2 u HP.out _))).mono ?_; rintro e W1 ⟨rfl, hb1⟩; have h1v : Boxed W1 (g + 1 + 1 + 1) 32 v := (hb1.block _ hv.lt).trans hv; have hx0 := h1v.cell; have hx2 := h1v.frozen; have hrow1 := own_move hrow (fun k hk => hb1.block k (own_lt hrow k hk)); have hQ1 := QS_below hQ hb1; have hR01 : Boxed W1 g 32 (.slice none 0 0) := (hb1.block _ hR0.lt).trans hR0; have hR11 : Boxed W1 (g + 1) 2 (.int .i64 0) := (hb1.block _ hR1.lt).trans hR1; have hbs1 := hb1.size) | (gi_at_builtin; refine wpListIn_append_own _ rfl _ _ 32 rfl g 5 i0 _ 1 1 Tryd.underlying32 hi hz0 hz1 hz2 rfl (by decide) _ _ _ rfl (hrow1.alloc _) ⟨W1.heap.size, 0, none⟩ 1 1 [.int .u8 ((u : Int) % 256)] rfl rfl (cell_one_new _ _ _) (by simp [Value.oneCell']) (by unfold maxLen; omega) (by omega) (by simp; omega) ?_; intro v' w2 hown' hgrow _; obtain ⟨g', cap', rfl⟩ := ownsRow_succ hown'; obtain ⟨hv1, hv2, hr2, hk2, hb2⟩ := h1v.appended (by decide) hrow1 (by omega) (by omega) hown' hgrow; have hc2 := hv1.cell; have hf2 := hv1.frozen))
      have hbb : Below g W (w2.setCell ⟨g + 1 + 1 + 1, 0, none⟩ (.slice (some ⟨g', 0, none⟩) (pre.length + 1) cap')) := (hb1.mono hBS).trans hb2
      have hQ2 : QS (g + 1 + 1 + 1 + 1) (g + 1 + 1 + 1 + 1 + 1) ws (w2.setCell ⟨g + 1 + 1 + 1, 0, none⟩ (.slice (some ⟨g', 0, none⟩) (pre.length + 1) cap')) := ⟨blk_far (blk_grown (blk_alloc hQ1.1 _) hgrow (row_ne hrow1 hQ1.1 (by decide))) (show g + 1 + 1 + 1 + 1 ≠ g + 1 + 1 + 1 by omega) _, blk_far (blk_grown (blk_alloc hQ1.2 _) hgrow (row_ne hrow1 hQ1.2 (by decide))) (show g + 1 + 1 + 1 + 1 + 1 ≠ g + 1 + 1 + 1 by omega) _⟩
      refine ⟨((keeps_below hb1).trans hk2).from _, ⟨hbb, fun _ => hQ2⟩, ⟨_, hv2, ?_, ?_⟩, (boxed_beside hR01 (by decide) hrow1 hgrow).other (show g ≠ g + 1 + 1 + 1 by omega) _, (boxed_beside hR11 (by decide) hrow1 hgrow).other (show g + 1 ≠ g + 1 + 1 + 1 by omega) _, hQ2, hB.trans hbb⟩
      · rw [encN_snoc, List.length_append, show num8 x.1.2 = (u : Int) % 256 by unfold num8; rw [HP.out]; rfl]
        exact hr2
      · intro y hy
        rw [List.mem_append, List.mem_singleton] at hy
        rcases hy with hy | rfl
        · exact hok y hy
        · rw [HP.out]
          rfl
  case done =>
    rintro D ys W hD rfl ⟨⟨v, hv, hrow, hok⟩, hR0, hR1, hQ, hB⟩ hK
    have hvc := hv.cell
    have hvf := hv.frozen
    have hul : (upto (wd ws hws) ws.length).length = (numsR ws).length := by simp [numsR, upto_length]
    have hen : encN (upto (wd ws hws) ws.length) = (numsR ws).map (Value.int .u8) := by
      unfold encN numsR upto
      simp [wd]
    rw [hul, hen] at hrow
    have hpos : 1 ≤ (numsR ws).length := by
      rw [← hul, upto_length, HWSE.out, wordsB_len]
      omega
    obtain ⟨g', cap', rfl⟩ : ∃ g' cap', v = .slice (some ⟨g', 0, none⟩) (numsR ws).length cap' := by
      rcases hrow.2 with ⟨_, e⟩ | ⟨g', cap', cur, e, _⟩
      · omega
      · exact ⟨g', cap', e⟩
    have hall : ((wordsB 58 a0).all fun t => (pu8 t).isSome) = true := by
      rw [← HWSE.out, List.all_eq_true]
      intro t ht
      obtain ⟨i, hi, rfl⟩ := List.getElem_of_mem ht
      have := hok (wd ws hws (ws.length - 1 - i)) (by
        unfold upto
        exact List.mem_map_of_mem (by simp; omega))
      have e : (wd ws hws (ws.length - 1 - i)).1.2 = ws[i] := by
        show rdOf ByteArray.empty ws ((ws.length : Int) - 1 - ((ws.length - 1 - i : Nat) : Int)) = ws[i]
        rw [show ((ws.length : Int) - 1 - ((ws.length - 1 - i : Nat) : Int)) = (i : Int) by omega]
        simp [rdOf, List.getD, hi]
      rw [e] at this
      exact this
    have hr := HR.out
    unfold readS at hr
    rw [if_pos HS.out, if_pos hall, ← HWSE.out] at hr
    replace hr := Option.bind_eq_some_iff.mp hr
    obtain ⟨t, ht, hr⟩ := hr
    have hC := Kd.R_reads' (ok := fun _ => True) (Kd.R_of_own (enc := Value.int .u8) (h1 := fun _ => rfl) hrow (fun _ _ => trivial))
    have HC := Aside0.mk hC
    have HT := Aside0.mk ht
    have HEW := Aside0.mk (env_keep HE.out hB (by have := HG.out; omega))
    have hf4 : Fence.wide.fn 15 := trivial
    clear hC ht hall hpos
    by_cases ct : t.toList = a0.toList
    · rw [if_pos ct] at hr
      obtain rfl := Option.some.inj hr
      have cb : (t.toList != a0.toList) = false := bne_eq_false_iff_eq.mpr ct
      have cb0 : (t.toList == a0.toList) = true := by simpa using ct
      have CT := Aside0.mk ct
      clear ct hr
      gi_wp2_with (gi_at_call 15; refine ((callsIn_wide (n := n - 1)).2 (impl_StackText.calls _ _ _ t _ HC.out.2.2 HC.out.2.1 HT.out HEW.out.1)).mono ?_; rintro e W2 ⟨rfl, hb2⟩; have k0 := (hb2.block _ hR0.lt).trans hR0; have k1 := (hb2.block _ hR1.lt).trans hR1; have kv := (hb2.block _ hv.lt).trans hv; have kc0 := Boxed.cell k0; have kf0 := Boxed.frozen k0; have kc1 := Boxed.cell k1; have kf1 := Boxed.frozen k1; have kcv := Boxed.cell kv)
      have hg2 := HG.out
      have hKD : W2.heap[D]? = some (.deferred (some [])) := (hb2.block D (Array.getElem?_eq_some_iff.1 hK).1).trans hK
      have hb02 : Below g w W2 := hB.trans (hb2.mono (by have := hB.size; omega))
      have hrow2 := own_move hrow (fun k hk => hb2.block k (own_lt hrow k hk))
      have e1 : Boxed ((W2.setCell ⟨g, 0, none⟩ (.slice (some ⟨g', 0, none⟩) (numsR ws).length cap')).setCell ⟨g + 1, 0, none⟩ (.int .i64 0)) g 32 (.slice (some ⟨g', 0, none⟩) (numsR ws).length cap') := (Boxed.set _ k0).other (show g ≠ g + 1 by omega) _
      have e2 : Boxed ((W2.setCell ⟨g, 0, none⟩ (.slice (some ⟨g', 0, none⟩) (numsR ws).length cap')).setCell ⟨g + 1, 0, none⟩ (.int .i64 0)) (g + 1) 2 (.int .i64 0) := Boxed.set _ (Boxed.other k1 (show g + 1 ≠ g by omega) _)
      have hKE : ((W2.setCell ⟨g, 0, none⟩ (.slice (some ⟨g', 0, none⟩) (numsR ws).length cap')).setCell ⟨g + 1, 0, none⟩ (.int .i64 0)).heap[D]? = some (.deferred (some [])) := (Below.heap_setCell _ _ _ D (show D ≠ g + 1 by omega)).trans ((Below.heap_setCell _ _ _ D (show D ≠ g by omega)).trans hKD)
      have hrow3 := own_move (own_move hrow2 (fun k hk => Below.heap_setCell W2 ⟨g, 0, none⟩ (.slice (some ⟨g', 0, none⟩) (numsR ws).length cap') k (fun e => row_ne hrow2 k0 (by decide) (by have e2 : k = g := e; rw [← e2]; exact hk.symm)))) (fun k hk => Below.heap_setCell _ ⟨g + 1, 0, none⟩ (.int .i64 0) k (fun e => row_ne hrow2 k1 (by decide) (by have e2 : k = g + 1 := e; rw [← e2]; exact hk.symm)))
      refine ⟨by simp, .inl ⟨_, _, rfl, run_takeDeferred hKE, ?_⟩⟩
      refine ⟨_, results_cell2 rfl _ _ _ ⟨g, 0, none⟩ ⟨g + 1, 0, none⟩ _ _ rfl rfl (load_stack _ _ _ (cell_put hKE rfl e1)) (load_i64 _ _ _ (cell_put hKE rfl e2)), _, rfl, ?_, ?_⟩
      · rw [← hg2]
        exact ownsRow_putObj hrow3 _ hKE rfl
      · rw [← hg2]
        exact ((hb02.setCell (p := ⟨g, 0, none⟩) (Nat.le_refl _) _).setCell (p := ⟨g + 1, 0, none⟩) (Nat.le_succ _) _).trans (belowK_b (w := w) (by omega) _ D _ _ (by omega) hKE rfl rfl)
    · rw [if_neg ct] at hr
      obtain rfl := Option.some.inj hr
      have cb : (t.toList != a0.toList) = true := by simpa using ct
      have cb0 : (t.toList == a0.toList) = false := by simpa using ct
      clear ct hr
      gi_wp2_with (gi_at_call 15; refine ((callsIn_wide (n := n - 1)).2 (impl_StackText.calls _ _ _ t _ HC.out.2.2 HC.out.2.1 HT.out HEW.out.1)).mono ?_; rintro e W2 ⟨rfl, hb2⟩; have k0 := (hb2.block _ hR0.lt).trans hR0; have k1 := (hb2.block _ hR1.lt).trans hR1; have kc0 := Boxed.cell k0; have kf0 := Boxed.frozen k0; have kc1 := Boxed.cell k1; have kf1 := Boxed.frozen k1)
      have hg2 := HG.out
      have hKD : W2.heap[D]? = some (.deferred (some [])) := (hb2.block D (Array.getElem?_eq_some_iff.1 hK).1).trans hK
      have hb02 : Below g w W2 := hB.trans (hb2.mono (by have := hB.size; omega))
      have e1 : Boxed ((W2.setCell ⟨g, 0, none⟩ (.slice none 0 0)).setCell ⟨g + 1, 0, none⟩ (.int .i64 5)) g 32 (.slice none 0 0) := (Boxed.set _ k0).other (show g ≠ g + 1 by omega) _
      have e2 : Boxed ((W2.setCell ⟨g, 0, none⟩ (.slice none 0 0)).setCell ⟨g + 1, 0, none⟩ (.int .i64 5)) (g + 1) 2 (.int .i64 5) := Boxed.set _ (Boxed.other k1 (show g + 1 ≠ g by omega) _)
      have hKE : ((W2.setCell ⟨g, 0, none⟩ (.slice none 0 0)).setCell ⟨g + 1, 0, none⟩ (.int .i64 5)).heap[D]? = some (.deferred (some [])) := (Below.heap_setCell _ _ _ D (show D ≠ g + 1 by omega)).trans ((Below.heap_setCell _ _ _ D (show D ≠ g by omega)).trans hKD)
      refine ⟨by simp, .inl ⟨_, _, rfl, run_takeDeferred hKE, ?_⟩⟩
      refine ⟨_, results_cell2 rfl _ _ _ ⟨g, 0, none⟩ ⟨g + 1, 0, none⟩ _ _ rfl rfl (load_stack _ _ _ (cell_put hKE rfl e1)) (load_i64 _ _ _ (cell_put hKE rfl e2)), _, rfl, World.ownsRow_nil _ _ _ _, ?_⟩
      rw [← hg2]
      exact ((hb02.setCell (p := ⟨g, 0, none⟩) (Nat.le_refl _) _).setCell (p := ⟨g + 1, 0, none⟩) (Nat.le_succ _) _).trans (belowK_b (w := w) (by omega) _ D _ _ (by omega) hKE rfl rfl)
  case stop =>
    rintro D c pre W hD ⟨k, hk, rfl⟩ ⟨⟨rfl, x, hx, hbad⟩, hR0, hR1, hB⟩ hK
    have hr := HR.out
    unfold readS at hr
    have hall : ¬ ((wordsB 58 a0).all fun t => (pu8 t).isSome) = true := by
      intro h
      rw [← HWSE.out, List.all_eq_true] at h
      unfold upto at hx
      obtain ⟨i, hi, rfl⟩ := List.mem_map.1 hx
      rw [List.mem_range] at hi
      have hlt : (((ws.length : Int) - 1 - i).toNat) < ws.length := by omega
      have e : (wd ws hws i).1.2 = ws[((ws.length : Int) - 1 - i).toNat] := by
        show rdOf ByteArray.empty ws ((ws.length : Int) - 1 - i) = _
        unfold rdOf
        rw [List.getD_eq_getElem?_getD, List.getElem?_eq_getElem hlt]
        rfl
      have := h _ (List.getElem_mem hlt)
      rw [← e, hbad] at this
      cases this
    rw [if_pos HS.out, if_neg hall] at hr
    obtain rfl := Option.some.inj hr
    clear hr hall hx
    have kc0 := hR0.cell
    have kc1 := hR1.cell
    gi_wp2
    have hg2 := HG.out
    refine ⟨by simp, .inl ⟨_, _, rfl, run_takeDeferred hK, ?_⟩⟩
    refine ⟨_, results_cell2 rfl _ _ _ ⟨g, 0, none⟩ ⟨g + 1, 0, none⟩ _ _ rfl rfl (load_stack _ _ _ (cell_put hK rfl hR0)) (load_i64 _ _ _ (cell_put hK rfl hR1)), _, rfl, World.ownsRow_nil _ _ _ _, ?_⟩
    rw [← hg2]
    exact hB.trans (belowK_b (w := w) (by omega) _ D _ _ (by omega) hK rfl rfl)
def impl_ReadStack.f (a0 : ByteArray) : Option (List Int × Int) := readS a0
theorem impl_ReadStack.calls (a0 : ByteArray) (r1 : List Int) (r2 : Int) (w : World) (h : impl_ReadStack.f a0 = some (r1, r2)) (htab : Env w) :
    Calls Tryd.prog 23 #[.string a0] w fun e w' => ∃ v0_ : Value, e = .returned (.tuple #[v0_, .int .i64 r2]) ∧ Kd.R (Kd.int .u8) 5 w' w.heap.size (fun _ => True) v0_ r1 ∧ Below w.heap.size w w' := by
  refine ((Go.callsIn_wide (n := 3)).1 (readS_in 3 (Nat.le_refl _) a0 (r1, r2) h w htab)).mono ?_
  rintro e w' ⟨v, rfl, hrow, hb⟩
  exact ⟨v, rfl, Kd.R_of_own (enc := Value.int .u8) (h1 := fun _ => rfl) hrow (fun _ _ => trivial), hb⟩
end Go.Proofs.YtdgillfbdlmloaaDoor.P
