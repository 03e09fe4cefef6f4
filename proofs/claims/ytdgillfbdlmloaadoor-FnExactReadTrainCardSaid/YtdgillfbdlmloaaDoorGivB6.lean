/- A list of numbers read from behind its head. -/
import Derived.Test.YtdgillfbdlmloaaDoorPx0
import Derived.Laws.Rows
import Derived.Laws.Tables
import Derived.Laws.CopyOwn
import Derived.IntWalk
namespace Go.Proofs.YtdgillfbdlmloaaDoor.P
open Go.RowKit Go.Proofs.YtdgillfbdlmloaaDoorW.PrintWords Go.Proofs.YtdgillfbdlmloaaDoorW.PrintLast Go.Proofs.YtdgillfbdlmloaaDoorW.PrintMore
theorem drop_rd (l : List Int) (x : Int) (h0 : 0 ≤ x) (h1 : x < (l.length : Int)) : l.drop x.toNat = rd l x :: l.drop (x + 1).toNat := by
  have e : (x + 1).toNat = x.toNat + 1 := by omega
  rw [e, List.drop_eq_getElem_cons (show x.toNat < l.length by omega)]
  simp [rd, List.getD, List.getElem?_eq_getElem (show x.toNat < l.length by omega)]
theorem take_set (o a : List Int) (x : Int) (h0 : 0 ≤ x) (h1 : x < o.length) (h2 : o.length = a.length) (h : o.take x.toNat = a.take x.toNat) : (o.set x.toNat (rd a x)).take (x + 1).toNat = a.take (x + 1).toNat := by
  have e : (x + 1).toNat = x.toNat + 1 := by omega
  rw [e, List.take_succ_eq_append_getElem (by rw [List.length_set]; omega), List.take_succ_eq_append_getElem (by omega), List.getElem_set_self, List.take_set_of_le (Nat.le_refl _), h]
  simp [rd, List.getD, List.getElem?_eq_getElem (show x.toNat < a.length by omega)]
end Go.Proofs.YtdgillfbdlmloaaDoor.P
