/- A motion that is handed back: its box, and what it holds. -/
import Derived.Test.YtdgillfbdlmloaaGreatDoorPx0
import Derived.Tactics
namespace Go.Proofs.YtdgillfbdlmloaaGreatDoor.P
open Go.RowKit Go.Proofs.YtdgillfbdlmloaaGreatDoorW.PrintWords Go.Proofs.YtdgillfbdlmloaaGreatDoorW.PrintLast Go.Proofs.YtdgillfbdlmloaaGreatDoorW.PrintMore
set_option linter.unusedVariables false
set_option linter.unusedSimpArgs false
abbrev SJ := S39
theorem infoJ : (Tryz.prog.info? 39).map (fun i => (i.zero, i.size, i.bytes)) = some (some (.agg #[(.int .i8 0), (.int .i16 0)]), 2, 4) := by kernel_rfl
theorem slice_of {α : Type} {d : Kd α} {e base : Nat} {w : World} {ok : Nat → Prop} {v : Value} {xs : List α} (h : d.R e w base ok v xs) : ∃ A n c, v = .slice A n c := by
  obtain ⟨A, c, e⟩ := Kd.R_slice h
  exact ⟨A, _, c, e⟩
theorem loadM {W : World} {g : Nat} {x y : Value} (h0 : W.cell? ⟨g, 0, none⟩ = some x) (h1 : W.cell? ⟨g, 1, none⟩ = some y) : (loadVar 26 ⟨g, 0, none⟩).run Tryz.prog W = .ok (.agg #[x, y]) W := by
  simp [loadVar, go_sem, h0, h1]
theorem results_motion {fn : Func} (h : fn.results = #[.cell 2 26, .tmp 3]) {tmps : Array Value} {W : World} {g : Nat} {x y z : Value} (hp : tmps.getD 2 undef = .pointer (some ⟨g, 0, none⟩)) (hq : tmps.getD 3 undef = z) (h0 : W.cell? ⟨g, 0, none⟩ = some x) (h1 : W.cell? ⟨g, 1, none⟩ = some y) :
    (results fn tmps).run Tryz.prog W = .ok (.tuple #[.agg #[x, y], z]) W := by
  have hp' : tmps[2]?.getD undef = .pointer (some ⟨g, 0, none⟩) := by simpa using hp
  have hq' : tmps[3]?.getD undef = z := by simpa using hq
  simp only [results, h]
  simp [Result.andThen, hp', hq', asAddr, loadM h0 h1]
/-- A box of two cells, written whole. -/
theorem box2 {W : World} {g : Nat} {t : TypeId} {a b : Value} (h : W.heap[g]? = some (.cells #[a, b] t (0, 0))) (x y : Value) : ((W.setCell ⟨g, 0, none⟩ x).setCell ⟨g, 1, none⟩ y).heap[g]? = some (.cells #[x, y] t (0, 0)) := (Go.Proofs.YtdgillfbdlmloaaGreatDoorW.PrintWords.blk_set (Go.Proofs.YtdgillfbdlmloaaGreatDoorW.PrintWords.blk_set h 0 x) 1 y).trans rfl
end Go.Proofs.YtdgillfbdlmloaaGreatDoor.P
