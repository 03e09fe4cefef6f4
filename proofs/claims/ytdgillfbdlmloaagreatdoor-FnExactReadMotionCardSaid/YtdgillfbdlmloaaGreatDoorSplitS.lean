/- What the readers ask of the world: the table of the powers of ten, the two error variables, the length that IndexString asks for; and strconv.ParseUint at eight bits, in few words. -/
import Derived.Test.YtdgillfbdlmloaaGreatDoorStackT
import Derived.Test.YtdgillfbdlmloaaGreatDoorShelf
import Derived.Lib.SmallJoins
import Derived.Lib.SplitLaws
namespace Go.Proofs.YtdgillfbdlmloaaGreatDoor.P
open Go.RowKit Go.Shelf Go.Proofs.YtdgillfbdlmloaaGreatDoorW.PrintWords Go.Proofs.YtdgillfbdlmloaaGreatDoorW.PrintLast Go.Proofs.YtdgillfbdlmloaaGreatDoorW.PrintMore
set_option linter.unusedVariables false
/-- Some number stands in the variable that tells how long a text the machine's own search takes. -/
def MaxL (w : World) : Prop := ∃ m, w.cell? ⟨0, 0, none⟩ = some (.int .i64 m)
/-- An error variable holds a value of an interface type. -/
def ErrV (n : String) (w : World) : Prop := ∃ tp p, w.var? Tryz.prog n = some #[.iface tp p]
/-- What the readers ask of the world. -/
def Env (w : World) : Prop := Tab w ∧ MaxL w ∧ ErrV "strconv.ErrSyntax" w ∧ ErrV "strconv.ErrRange" w
theorem err_keep {n : String} (hn : (Tryz.prog.globalNamed n).isSome = true) {w w' : World} {B : Nat} (h : ErrV n w) (hb : Below B w w') (hB : w.heap.size ≤ B) : ErrV n w' := by
  obtain ⟨g, hg⟩ := Option.isSome_iff_exists.mp hn
  obtain ⟨tp, p, hv⟩ := h
  exact ⟨tp, p, Go.Joins.var_stays hg hv hb hB⟩
theorem env_keep {w w' : World} {B : Nat} (h : Env w) (hb : Below B w w') (hB : w.heap.size ≤ B) : Env w' := by
  obtain ⟨h1, ⟨m, hm⟩, h3, h4⟩ := h
  exact ⟨tab_keep h1 hb hB, ⟨m, (hb.cell (Nat.lt_of_lt_of_le (World.block_lt_of_cell? w _ hm) hB)).trans hm⟩, err_keep (by kernel_rfl) h3 hb hB, err_keep (by kernel_rfl) h4 hb hB⟩
theorem bw_below (w : World) (e : TypeId) (s : ByteArray) : Below w.heap.size w (Lib.bytesWorld w e s) := bytes_below (Below.refl _ w) (Nat.le_refl _) e s
/-- The number of eight bits that a text spells, if it does. -/
def pu8 (t : ByteArray) : Option Nat :=
  match Lib.parseUintB 8 t.data.toList with
  | .ok u => some u
  | _ => none
theorem pu8_yes (t : ByteArray) (ht : t.size ≤ 281474976710656) (u : Nat) (hu : pu8 t = some u) (w : World) :
    Calls Tryz.prog 31 #[.string t, .int .i64 10, .int .i64 8] w fun e w' => e = .returned (.tuple #[.int .u64 u, .nilIface]) ∧ Below w.heap.size w w' := by
  have h : Lib.parseUintB 8 t.data.toList = .ok u := by
    unfold pu8 at hu
    split at hu
    · rename_i v hv
      obtain rfl := Option.some.inj hu
      exact hv
    · cases hu
  refine (Tryz.strconv_ParseUint_10_at8_ok t (by omega) u h w).mono ?_
  rintro e w' ⟨rfl, rfl | rfl⟩
  · exact ⟨rfl, Below.refl _ _⟩
  · exact ⟨rfl, bw_below _ _ _⟩
theorem pu8_no (t : ByteArray) (ht : t.size ≤ 281474976710656) (hu : pu8 t = none) (w : World) (hE : Env w) :
    Calls Tryz.prog 31 #[.string t, .int .i64 10, .int .i64 8] w fun e w' => ∃ N v, e = .returned (.tuple #[.int .u64 v, .iface 93 (.pointer (some ⟨N, 0, none⟩))]) ∧ Below w.heap.size w w' := by
  obtain ⟨_, _, ⟨t1, p1, h1⟩, ⟨t2, p2, h2⟩⟩ := hE
  cases h : Lib.parseUintB 8 t.data.toList with
  | ok u =>
    unfold pu8 at hu
    rw [h] at hu
    cases hu
  | range =>
    refine (Tryz.strconv_ParseUint_10_at8_range_var t ht h t2 p2 w h2).mono ?_
    rintro e w' ⟨N, rfl, _, _, hb⟩
    exact ⟨N, _, rfl, hb⟩
  | _ =>
    refine (Any.strconv_ParseUint_10_at8_syntax_var Tryz.laysPu14 t ht h t1 p1 w h1).mono ?_
    rintro e w' ⟨N, rfl, _, _, hb⟩
    exact ⟨N, _, rfl, hb⟩
end Go.Proofs.YtdgillfbdlmloaaGreatDoor.P
/- strings.Split in few words; what stands beside a row. -/
namespace Go.Proofs.YtdgillfbdlmloaaGreatDoor.P
open Go.RowKit Go.Shelf Go.Proofs.YtdgillfbdlmloaaGreatDoorW.PrintWords Go.Proofs.YtdgillfbdlmloaaGreatDoorW.PrintLast Go.Proofs.YtdgillfbdlmloaaGreatDoorW.PrintMore
set_option linter.unusedVariables false
/-- The words between the colons. -/
def wordsB (c : UInt8) (s : ByteArray) : List ByteArray := Lib.splitB ⟨#[c]⟩ 0 (Lib.countB s ⟨#[c]⟩) s
theorem wordsB_len (c : UInt8) (s : ByteArray) : (wordsB c s).length = Lib.countB s ⟨#[c]⟩ + 1 := Lib.splitB_all ⟨#[c]⟩ (Nat.le_refl 1) 0 _ s rfl
theorem wordsB_le (c : UInt8) (s : ByteArray) : (wordsB c s).length ≤ s.size + 1 := by
  rw [wordsB_len]
  exact Nat.succ_le_succ (Lib.countB_le ⟨#[c]⟩ (Nat.le_refl 1) _ s (Nat.le_refl _))
theorem splitB_small (sep : ByteArray) (save : Nat) : ∀ (k : Nat) (s : ByteArray), ∀ t ∈ Lib.splitB sep save k s, t.size ≤ s.size := by
  intro k
  induction k with
  | zero =>
    intro s t ht
    rw [Lib.splitB_zero, List.mem_singleton] at ht
    subst ht
    exact Nat.le_refl _
  | succ k ih =>
    intro s t ht
    unfold Lib.splitB at ht
    split at ht
    · rw [List.mem_singleton] at ht
      subst ht
      exact Nat.le_refl _
    · rw [List.mem_cons] at ht
      rcases ht with rfl | ht
      · rw [ByteArray.size_extract]
        omega
      · have := ih _ t ht
        rw [ByteArray.size_extract] at this
        omega
theorem split_calls (c : UInt8) (s : ByteArray) (hs : s.size ≤ 1048576) (w : World) (hE : Env w) :
    Calls Tryz.prog 13 #[.string s, .string ⟨#[c]⟩] w fun e w' => e = .returned (.slice (some ⟨w.heap.size, 0, none⟩) (wordsB c s).length (wordsB c s).length) ∧ w' = w.alloc (.cells ((wordsB c s).map Value.string).toArray 9) := by
  obtain ⟨_, ⟨m, hm⟩, _⟩ := hE
  rw [wordsB_len]
  exact Tryz.strings_Split s ⟨#[c]⟩ m w (by omega) hm (Nat.le_refl 1)
theorem row_ne {W : World} {n₀ e size k g t : Nat} {v : Value} {xs : List Value} {cs : Array Value} (hr : W.ownsRow n₀ e size v k xs) (hb : W.heap[g]? = some (.cells cs t (0, 0))) (ht : t ≠ e) : some g ≠ v.ownBlock := fun he => by
  obtain ⟨c, hc⟩ := own_typed hr g he.symm
  rw [hb] at hc
  injection hc with hc
  injection hc with _ hc
  exact ht hc
end Go.Proofs.YtdgillfbdlmloaaGreatDoor.P
