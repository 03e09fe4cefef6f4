/- strings.Split in few words; what stands beside a row. -/
import Derived.Test.YtdgillfbdlmloaaDoorParseS
import Derived.Lib.SplitLaws
namespace Go.Proofs.YtdgillfbdlmloaaDoor.P
open Go.RowKit Go.Shelf Go.Proofs.YtdgillfbdlmloaaDoorW.PrintWords Go.Proofs.YtdgillfbdlmloaaDoorW.PrintLast Go.Proofs.YtdgillfbdlmloaaDoorW.PrintMore
set_option linter.unusedVariables false
/-- The words between the colons. -/
def wordsB (c : UInt8) (s : ByteArray) : List ByteArray := Lib.splitB ⟨#[c]⟩ 0 (Lib.countB s ⟨#[c]⟩) s
theorem wordsB_len (c : UInt8) (s : ByteArray) : (wordsB c s).length = Lib.countB s ⟨#[c]⟩ + 1 := Lib.splitB_all ⟨#[c]⟩ (Nat.le_refl 1) 0 _ s rfl
theorem wordsB_le (c : UInt8) (s : ByteArray) : (wordsB c s).length ≤ s.size + 1 := by
  rw [wordsB_len]
  exact Nat.succ_le_succ (Lib.countB_le ⟨#[c]⟩ (Nat.le_refl 1) _ s (Nat.le_refl _))
theorem splitB_small (sep : ByteArray) (save : Nat) : ∀ (k : Nat) (s : ByteArray), ∀ t ∈ Lib.splitB sep save k s, t.size ≤ s.size := by
  intro k
  induction k with
  | zero =>
    intro s t ht
    rw [Lib.splitB_zero, List.mem_singleton] at ht
    subst ht
    exact Nat.le_refl _
  | succ k ih =>
    intro s t ht
    unfold Lib.splitB at ht
    split at ht
    · rw [List.mem_singleton] at ht
      subst ht
      exact Nat.le_refl _
    · rw [List.mem_cons] at ht
      rcases ht with rfl | ht
      · rw [ByteArray.size_extract]
        omega
      · have := ih _ t ht
        rw [ByteArray.size_extract] at this
        omega
theorem split_calls (c : UInt8) (s : ByteArray) (hs : s.size ≤ 1048576) (w : World) (hE : Env w) :
    Calls Tryd.prog 50 #[.string s, .string ⟨#[c]⟩] w fun e w' => e = .returned (.slice (some ⟨w.heap.size, 0, none⟩) (wordsB c s).length (wordsB c s).length) ∧ w' = w.alloc (.cells ((wordsB c s).map Value.string).toArray 9) := by
  obtain ⟨_, ⟨m, hm⟩, _⟩ := hE
  rw [wordsB_len]
  exact Tryd.strings_Split s ⟨#[c]⟩ m w (by omega) hm (Nat.le_refl 1)
theorem row_ne {W : World} {n₀ e size k g t : Nat} {v : Value} {xs : List Value} {cs : Array Value} (hr : W.ownsRow n₀ e size v k xs) (hb : W.heap[g]? = some (.cells cs t (0, 0))) (ht : t ≠ e) : some g ≠ v.ownBlock := fun he => by
  obtain ⟨c, hc⟩ := own_typed hr g he.symm
  rw [hb] at hc
  injection hc with hc
  injection hc with _ hc
  exact ht hc
end Go.Proofs.YtdgillfbdlmloaaDoor.P
