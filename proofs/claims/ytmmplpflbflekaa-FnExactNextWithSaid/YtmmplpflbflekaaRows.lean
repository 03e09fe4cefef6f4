/-
  No cell of these rows narrows 'for every input' (looked for: loops, veiled, ifaces, maps, wideKeys, modest, calm, conditions, laid).
  DERIVED. THE GIVEN ROWS OF THIS SEAT. 12 by the template 'for every input the law returns true; each argument reads behind the call as it read before'; 0 by the template 'total and deterministic' (their statements: YtmmplpflbflekaaTotals.lean).
  GIVEN WITH THE SEED: the statements are not yours to turn. If you find one false, say at which input.
  Laid BY PROGRAM, IN A SANDBOX (cutbox-rows.mjs): the forced cells as the released guide's own fill.sh prints them over the translation e629f05f60836774… (all of the seat's roots in one cut). By AI agents, Wed Nov 11 2026. No macro, syntax, notation, axiom, sorry.
-/
import Derived.Test.YtmmplpflbflekaaChecked
import GoSem.Claim
import GoSem.ClaimJoined
import GoSem.ClaimMapViews
import Derived.JoinedTies
import Derived.KernelRfl
namespace Go.Proofs.Ytmmplpflbflekaa
/- THE CELL 'sum', in the pinned program and in every row, IS THE sha256 OF THE DUMP (.gsa) THAT YtmmplpflbflekaaProg.lean LOADS. Nothing in Lean hashes anything: it is a label: what it is worth is what the hold of that sum in a sandbox is worth. -/
noncomputable def Try.pinned : Pinned := { name := "ytmmplpflbflekaa", sum := "e629f05f60836774c1af02cff774519a1f5a2dbe5ad3e25778c1b1ac91fbeb40", checked := Try.checked }
namespace Rows
def none {H : Type} : Left H := { results := [], args := [] }

/-- 'laws.FnExactSameStack': WHATEVER THE INPUT: true; the input reads as it did. -/
def fnExactSameStackSpec : ChangeSpec := { name := "fnExactSameStack", fn := fun _ => fun
  | [d1, d2] => { results := [.lit (.bool true)], args := [d1, d2] }
  | _ => none }
def fnExactSameStackRow : OpenClaim := { program := "ytmmplpflbflekaa", sum := "e629f05f60836774c1af02cff774519a1f5a2dbe5ad3e25778c1b1ac91fbeb40", func := "loop.example/g01278/laws.FnExactSameStack", spec := "fnExactSameStack", apart := false }
def FnExactSameStackSaid : Prop := fnExactSameStackRow.holds Try.pinned (OpenSpec.ofChange fnExactSameStackSpec)

/-- ITS FALSE NEIGHBOUR: 'it returns false'. Refute it at one input. -/
def fnExactSameStackWrong : ChangeSpec := { name := "fnExactSameStack", fn := fun _ => fun
  | [d1, d2] => { results := [.lit (.bool false)], args := [d1, d2] }
  | _ => none }
def FnExactSameStackWrongFalsely : Prop := fnExactSameStackRow.holds Try.pinned (OpenSpec.ofChange fnExactSameStackWrong)

/-- 'laws.FnExactValidStack': WHATEVER THE INPUT: true; the input reads as it did. -/
def fnExactValidStackSpec : ChangeSpec := { name := "fnExactValidStack", fn := fun _ => fun
  | [d] => { results := [.lit (.bool true)], args := [d] }
  | _ => none }
def fnExactValidStackRow : OpenClaim := { program := "ytmmplpflbflekaa", sum := "e629f05f60836774c1af02cff774519a1f5a2dbe5ad3e25778c1b1ac91fbeb40", func := "loop.example/g01278/laws.FnExactValidStack", spec := "fnExactValidStack", unfollowed := true, recurses := true, apart := false }
def FnExactValidStackSaid : Prop := fnExactValidStackRow.holds Try.pinned (OpenSpec.ofChange fnExactValidStackSpec)

/-- ITS FALSE NEIGHBOUR: 'it returns false'. Refute it at one input. -/
def fnExactValidStackWrong : ChangeSpec := { name := "fnExactValidStack", fn := fun _ => fun
  | [d] => { results := [.lit (.bool false)], args := [d] }
  | _ => none }
def FnExactValidStackWrongFalsely : Prop := fnExactValidStackRow.holds Try.pinned (OpenSpec.ofChange fnExactValidStackWrong)

/-- 'laws.FnExactSizeOf': WHATEVER THE INPUT: true; the input reads as it did. -/
def fnExactSizeOfSpec : ChangeSpec := { name := "fnExactSizeOf", fn := fun _ => fun
  | [d] => { results := [.lit (.bool true)], args := [d] }
  | _ => none }
def fnExactSizeOfRow : OpenClaim := { program := "ytmmplpflbflekaa", sum := "e629f05f60836774c1af02cff774519a1f5a2dbe5ad3e25778c1b1ac91fbeb40", func := "loop.example/g01278/laws.FnExactSizeOf", spec := "fnExactSizeOf", unfollowed := true, recurses := true, apart := false }
def FnExactSizeOfSaid : Prop := fnExactSizeOfRow.holds Try.pinned (OpenSpec.ofChange fnExactSizeOfSpec)

/-- ITS FALSE NEIGHBOUR: 'it returns false'. Refute it at one input. -/
def fnExactSizeOfWrong : ChangeSpec := { name := "fnExactSizeOf", fn := fun _ => fun
  | [d] => { results := [.lit (.bool false)], args := [d] }
  | _ => none }
def FnExactSizeOfWrongFalsely : Prop := fnExactSizeOfRow.holds Try.pinned (OpenSpec.ofChange fnExactSizeOfWrong)

/-- 'laws.FnExactPlaceOf': WHATEVER THE INPUT: true; the input reads as it did. -/
def fnExactPlaceOfSpec : ChangeSpec := { name := "fnExactPlaceOf", fn := fun _ => fun
  | [d1, d2] => { results := [.lit (.bool true)], args := [d1, d2] }
  | _ => none }
def fnExactPlaceOfRow : OpenClaim := { program := "ytmmplpflbflekaa", sum := "e629f05f60836774c1af02cff774519a1f5a2dbe5ad3e25778c1b1ac91fbeb40", func := "loop.example/g01278/laws.FnExactPlaceOf", spec := "fnExactPlaceOf", unfollowed := true, recurses := true, apart := false }
def FnExactPlaceOfSaid : Prop := fnExactPlaceOfRow.holds Try.pinned (OpenSpec.ofChange fnExactPlaceOfSpec)

/-- ITS FALSE NEIGHBOUR: 'it returns false'. Refute it at one input. -/
def fnExactPlaceOfWrong : ChangeSpec := { name := "fnExactPlaceOf", fn := fun _ => fun
  | [d1, d2] => { results := [.lit (.bool false)], args := [d1, d2] }
  | _ => none }
def FnExactPlaceOfWrongFalsely : Prop := fnExactPlaceOfRow.holds Try.pinned (OpenSpec.ofChange fnExactPlaceOfWrong)

/-- 'laws.FnExactValidDigits': WHATEVER THE INPUT: true; the input reads as it did. -/
def fnExactValidDigitsSpec : ChangeSpec := { name := "fnExactValidDigits", fn := fun _ => fun
  | [d1, d2] => { results := [.lit (.bool true)], args := [d1, d2] }
  | _ => none }
def fnExactValidDigitsRow : OpenClaim := { program := "ytmmplpflbflekaa", sum := "e629f05f60836774c1af02cff774519a1f5a2dbe5ad3e25778c1b1ac91fbeb40", func := "loop.example/g01278/laws.FnExactValidDigits", spec := "fnExactValidDigits", unfollowed := true, recurses := true, apart := false }
def FnExactValidDigitsSaid : Prop := fnExactValidDigitsRow.holds Try.pinned (OpenSpec.ofChange fnExactValidDigitsSpec)

/-- ITS FALSE NEIGHBOUR: 'it returns false'. Refute it at one input. -/
def fnExactValidDigitsWrong : ChangeSpec := { name := "fnExactValidDigits", fn := fun _ => fun
  | [d1, d2] => { results := [.lit (.bool false)], args := [d1, d2] }
  | _ => none }
def FnExactValidDigitsWrongFalsely : Prop := fnExactValidDigitsRow.holds Try.pinned (OpenSpec.ofChange fnExactValidDigitsWrong)

/-- 'laws.FnExactCountWith': WHATEVER THE INPUT: true; the input reads as it did. -/
def fnExactCountWithSpec : ChangeSpec := { name := "fnExactCountWith", fn := fun _ => fun
  | [d1, d2, d3, d4, d5] => { results := [.lit (.bool true)], args := [d1, d2, d3, d4, d5] }
  | _ => none }
def fnExactCountWithRow : OpenClaim := { program := "ytmmplpflbflekaa", sum := "e629f05f60836774c1af02cff774519a1f5a2dbe5ad3e25778c1b1ac91fbeb40", func := "loop.example/g01278/laws.FnExactCountWith", spec := "fnExactCountWith", unfollowed := true, recurses := true, apart := false }
def FnExactCountWithSaid : Prop := fnExactCountWithRow.holds Try.pinned (OpenSpec.ofChange fnExactCountWithSpec)

/-- ITS FALSE NEIGHBOUR: 'it returns false'. Refute it at one input. -/
def fnExactCountWithWrong : ChangeSpec := { name := "fnExactCountWith", fn := fun _ => fun
  | [d1, d2, d3, d4, d5] => { results := [.lit (.bool false)], args := [d1, d2, d3, d4, d5] }
  | _ => none }
def FnExactCountWithWrongFalsely : Prop := fnExactCountWithRow.holds Try.pinned (OpenSpec.ofChange fnExactCountWithWrong)

/-- 'laws.FnExactComplement': WHATEVER THE INPUT: true; the input reads as it did. -/
def fnExactComplementSpec : ChangeSpec := { name := "fnExactComplement", fn := fun _ => fun
  | [d1, d2] => { results := [.lit (.bool true)], args := [d1, d2] }
  | _ => none }
def fnExactComplementRow : OpenClaim := { program := "ytmmplpflbflekaa", sum := "e629f05f60836774c1af02cff774519a1f5a2dbe5ad3e25778c1b1ac91fbeb40", func := "loop.example/g01278/laws.FnExactComplement", spec := "fnExactComplement", unfollowed := true, recurses := true, apart := false }
def FnExactComplementSaid : Prop := fnExactComplementRow.holds Try.pinned (OpenSpec.ofChange fnExactComplementSpec)

/-- ITS FALSE NEIGHBOUR: 'it returns false'. Refute it at one input. -/
def fnExactComplementWrong : ChangeSpec := { name := "fnExactComplement", fn := fun _ => fun
  | [d1, d2] => { results := [.lit (.bool false)], args := [d1, d2] }
  | _ => none }
def FnExactComplementWrongFalsely : Prop := fnExactComplementRow.holds Try.pinned (OpenSpec.ofChange fnExactComplementWrong)

/-- 'laws.FnExactValueOf': WHATEVER THE INPUT: true; the input reads as it did. -/
def fnExactValueOfSpec : ChangeSpec := { name := "fnExactValueOf", fn := fun _ => fun
  | [d1, d2] => { results := [.lit (.bool true)], args := [d1, d2] }
  | _ => none }
def fnExactValueOfRow : OpenClaim := { program := "ytmmplpflbflekaa", sum := "e629f05f60836774c1af02cff774519a1f5a2dbe5ad3e25778c1b1ac91fbeb40", func := "loop.example/g01278/laws.FnExactValueOf", spec := "fnExactValueOf", unfollowed := true, recurses := true, apart := false }
def FnExactValueOfSaid : Prop := fnExactValueOfRow.holds Try.pinned (OpenSpec.ofChange fnExactValueOfSpec)

/-- ITS FALSE NEIGHBOUR: 'it returns false'. Refute it at one input. -/
def fnExactValueOfWrong : ChangeSpec := { name := "fnExactValueOf", fn := fun _ => fun
  | [d1, d2] => { results := [.lit (.bool false)], args := [d1, d2] }
  | _ => none }
def FnExactValueOfWrongFalsely : Prop := fnExactValueOfRow.holds Try.pinned (OpenSpec.ofChange fnExactValueOfWrong)

/-- 'laws.FnExactLastOf': WHATEVER THE INPUT: true; the input reads as it did. -/
def fnExactLastOfSpec : ChangeSpec := { name := "fnExactLastOf", fn := fun _ => fun
  | [d1, d2, d3] => { results := [.lit (.bool true)], args := [d1, d2, d3] }
  | _ => none }
def fnExactLastOfRow : OpenClaim := { program := "ytmmplpflbflekaa", sum := "e629f05f60836774c1af02cff774519a1f5a2dbe5ad3e25778c1b1ac91fbeb40", func := "loop.example/g01278/laws.FnExactLastOf", spec := "fnExactLastOf", unfollowed := true, recurses := true, apart := false }
def FnExactLastOfSaid : Prop := fnExactLastOfRow.holds Try.pinned (OpenSpec.ofChange fnExactLastOfSpec)

/-- ITS FALSE NEIGHBOUR: 'it returns false'. Refute it at one input. -/
def fnExactLastOfWrong : ChangeSpec := { name := "fnExactLastOf", fn := fun _ => fun
  | [d1, d2, d3] => { results := [.lit (.bool false)], args := [d1, d2, d3] }
  | _ => none }
def FnExactLastOfWrongFalsely : Prop := fnExactLastOfRow.holds Try.pinned (OpenSpec.ofChange fnExactLastOfWrong)

/-- 'laws.FnExactCompareDigits': WHATEVER THE INPUT: true; the input reads as it did. -/
def fnExactCompareDigitsSpec : ChangeSpec := { name := "fnExactCompareDigits", fn := fun _ => fun
  | [d1, d2, d3] => { results := [.lit (.bool true)], args := [d1, d2, d3] }
  | _ => none }
def fnExactCompareDigitsRow : OpenClaim := { program := "ytmmplpflbflekaa", sum := "e629f05f60836774c1af02cff774519a1f5a2dbe5ad3e25778c1b1ac91fbeb40", func := "loop.example/g01278/laws.FnExactCompareDigits", spec := "fnExactCompareDigits", unfollowed := true, recurses := true, apart := false }
def FnExactCompareDigitsSaid : Prop := fnExactCompareDigitsRow.holds Try.pinned (OpenSpec.ofChange fnExactCompareDigitsSpec)

/-- ITS FALSE NEIGHBOUR: 'it returns false'. Refute it at one input. -/
def fnExactCompareDigitsWrong : ChangeSpec := { name := "fnExactCompareDigits", fn := fun _ => fun
  | [d1, d2, d3] => { results := [.lit (.bool false)], args := [d1, d2, d3] }
  | _ => none }
def FnExactCompareDigitsWrongFalsely : Prop := fnExactCompareDigitsRow.holds Try.pinned (OpenSpec.ofChange fnExactCompareDigitsWrong)

/-- 'laws.FnExactWayTo': WHATEVER THE INPUT: true; the input reads as it did. -/
def fnExactWayToSpec : ChangeSpec := { name := "fnExactWayTo", fn := fun _ => fun
  | [d1, d2, d3] => { results := [.lit (.bool true)], args := [d1, d2, d3] }
  | _ => none }
def fnExactWayToRow : OpenClaim := { program := "ytmmplpflbflekaa", sum := "e629f05f60836774c1af02cff774519a1f5a2dbe5ad3e25778c1b1ac91fbeb40", func := "loop.example/g01278/laws.FnExactWayTo", spec := "fnExactWayTo", unfollowed := true, recurses := true, apart := false }
def FnExactWayToSaid : Prop := fnExactWayToRow.holds Try.pinned (OpenSpec.ofChange fnExactWayToSpec)

/-- ITS FALSE NEIGHBOUR: 'it returns false'. Refute it at one input. -/
def fnExactWayToWrong : ChangeSpec := { name := "fnExactWayTo", fn := fun _ => fun
  | [d1, d2, d3] => { results := [.lit (.bool false)], args := [d1, d2, d3] }
  | _ => none }
def FnExactWayToWrongFalsely : Prop := fnExactWayToRow.holds Try.pinned (OpenSpec.ofChange fnExactWayToWrong)

/-- 'laws.FnExactNextWith': WHATEVER THE INPUT: true; the input reads as it did. -/
def fnExactNextWithSpec : ChangeSpec := { name := "fnExactNextWith", fn := fun _ => fun
  | [d1, d2, d3, d4] => { results := [.lit (.bool true)], args := [d1, d2, d3, d4] }
  | _ => none }
def fnExactNextWithRow : OpenClaim := { program := "ytmmplpflbflekaa", sum := "e629f05f60836774c1af02cff774519a1f5a2dbe5ad3e25778c1b1ac91fbeb40", func := "loop.example/g01278/laws.FnExactNextWith", spec := "fnExactNextWith", unfollowed := true, recurses := true, apart := false }
def FnExactNextWithSaid : Prop := fnExactNextWithRow.holds Try.pinned (OpenSpec.ofChange fnExactNextWithSpec)

/-- ITS FALSE NEIGHBOUR: 'it returns false'. Refute it at one input. -/
def fnExactNextWithWrong : ChangeSpec := { name := "fnExactNextWith", fn := fun _ => fun
  | [d1, d2, d3, d4] => { results := [.lit (.bool false)], args := [d1, d2, d3, d4] }
  | _ => none }
def FnExactNextWithWrongFalsely : Prop := fnExactNextWithRow.holds Try.pinned (OpenSpec.ofChange fnExactNextWithWrong)

/- THE SECOND FORM. 'bulk': how many values and letters a reading holds, each counted each time it is reached (what is shared counts as often as it is met; a slice's spare places count too). A statement '..UptoSaid' is the law's where the arguments, and the package variables that the reading takes, are together of bulk at most 1048576: NARROWER than '..Said'. Prove '..Said' where nothing that the law and all that it calls make is longer than what came in: it says more and counts as full. Else prove '..UptoSaid'. A law counts once. -/
mutual
def uptoBulk {H : Type} : DataW H → Nat
  | .lit (.string bytes) => bytes.length + 1
  | .lit _ => 1
  | .nil => 1
  | .ptr d => uptoBulk d + 1
  | .slice elems spare => uptoBulkAll elems + uptoBulkAll spare + 1
  | .agg parts => uptoBulkAll parts + 1
  | .iface _ d => uptoBulk d + 1
  | .map entries => uptoBulkEntries entries + 1
  | .held _ => 1
def uptoBulkAll {H : Type} : List (DataW H) → Nat
  | [] => 0
  | d :: r => uptoBulk d + uptoBulkAll r
def uptoBulkEntries {H : Type} : List (Lit × DataW H) → Nat
  | [] => 0
  | x :: r => uptoBulkEntry x + uptoBulkEntries r
def uptoBulkEntry {H : Type} : Lit × DataW H → Nat
  | (.string bytes, d) => bytes.length + uptoBulk d + 1
  | (_, d) => uptoBulk d + 1
 end
def uptoSmall : (H : Type) → List (DataW H) → Bool := fun _ ds => decide (uptoBulkAll ds ≤ 1048576)
def OpenSpec.upto (s : _root_.Go.ChangeSpec) : _root_.Go.OpenSpec := { _root_.Go.OpenSpec.ofChange s with cond := some uptoSmall }

/-- 'laws.FnExactSameStack', WHERE WHAT IT READS IS OF BULK AT MOST 1048576: true; the input reads as it did. -/
def fnExactSameStackUptoRow : OpenClaim := { program := "ytmmplpflbflekaa", sum := "e629f05f60836774c1af02cff774519a1f5a2dbe5ad3e25778c1b1ac91fbeb40", func := "loop.example/g01278/laws.FnExactSameStack", spec := "fnExactSameStack", apart := false, narrowed := true }
def FnExactSameStackUptoSaid : Prop := fnExactSameStackUptoRow.holds Try.pinned (OpenSpec.upto fnExactSameStackSpec)

/-- 'laws.FnExactValidStack', WHERE WHAT IT READS IS OF BULK AT MOST 1048576: true; the input reads as it did. -/
def fnExactValidStackUptoRow : OpenClaim := { program := "ytmmplpflbflekaa", sum := "e629f05f60836774c1af02cff774519a1f5a2dbe5ad3e25778c1b1ac91fbeb40", func := "loop.example/g01278/laws.FnExactValidStack", spec := "fnExactValidStack", unfollowed := true, recurses := true, apart := false, narrowed := true }
def FnExactValidStackUptoSaid : Prop := fnExactValidStackUptoRow.holds Try.pinned (OpenSpec.upto fnExactValidStackSpec)

/-- 'laws.FnExactSizeOf', WHERE WHAT IT READS IS OF BULK AT MOST 1048576: true; the input reads as it did. -/
def fnExactSizeOfUptoRow : OpenClaim := { program := "ytmmplpflbflekaa", sum := "e629f05f60836774c1af02cff774519a1f5a2dbe5ad3e25778c1b1ac91fbeb40", func := "loop.example/g01278/laws.FnExactSizeOf", spec := "fnExactSizeOf", unfollowed := true, recurses := true, apart := false, narrowed := true }
def FnExactSizeOfUptoSaid : Prop := fnExactSizeOfUptoRow.holds Try.pinned (OpenSpec.upto fnExactSizeOfSpec)

/-- 'laws.FnExactPlaceOf', WHERE WHAT IT READS IS OF BULK AT MOST 1048576: true; the input reads as it did. -/
def fnExactPlaceOfUptoRow : OpenClaim := { program := "ytmmplpflbflekaa", sum := "e629f05f60836774c1af02cff774519a1f5a2dbe5ad3e25778c1b1ac91fbeb40", func := "loop.example/g01278/laws.FnExactPlaceOf", spec := "fnExactPlaceOf", unfollowed := true, recurses := true, apart := false, narrowed := true }
def FnExactPlaceOfUptoSaid : Prop := fnExactPlaceOfUptoRow.holds Try.pinned (OpenSpec.upto fnExactPlaceOfSpec)

/-- 'laws.FnExactValidDigits', WHERE WHAT IT READS IS OF BULK AT MOST 1048576: true; the input reads as it did. -/
def fnExactValidDigitsUptoRow : OpenClaim := { program := "ytmmplpflbflekaa", sum := "e629f05f60836774c1af02cff774519a1f5a2dbe5ad3e25778c1b1ac91fbeb40", func := "loop.example/g01278/laws.FnExactValidDigits", spec := "fnExactValidDigits", unfollowed := true, recurses := true, apart := false, narrowed := true }
def FnExactValidDigitsUptoSaid : Prop := fnExactValidDigitsUptoRow.holds Try.pinned (OpenSpec.upto fnExactValidDigitsSpec)

/-- 'laws.FnExactCountWith', WHERE WHAT IT READS IS OF BULK AT MOST 1048576: true; the input reads as it did. -/
def fnExactCountWithUptoRow : OpenClaim := { program := "ytmmplpflbflekaa", sum := "e629f05f60836774c1af02cff774519a1f5a2dbe5ad3e25778c1b1ac91fbeb40", func := "loop.example/g01278/laws.FnExactCountWith", spec := "fnExactCountWith", unfollowed := true, recurses := true, apart := false, narrowed := true }
def FnExactCountWithUptoSaid : Prop := fnExactCountWithUptoRow.holds Try.pinned (OpenSpec.upto fnExactCountWithSpec)

/-- 'laws.FnExactComplement', WHERE WHAT IT READS IS OF BULK AT MOST 1048576: true; the input reads as it did. -/
def fnExactComplementUptoRow : OpenClaim := { program := "ytmmplpflbflekaa", sum := "e629f05f60836774c1af02cff774519a1f5a2dbe5ad3e25778c1b1ac91fbeb40", func := "loop.example/g01278/laws.FnExactComplement", spec := "fnExactComplement", unfollowed := true, recurses := true, apart := false, narrowed := true }
def FnExactComplementUptoSaid : Prop := fnExactComplementUptoRow.holds Try.pinned (OpenSpec.upto fnExactComplementSpec)

/-- 'laws.FnExactValueOf', WHERE WHAT IT READS IS OF BULK AT MOST 1048576: true; the input reads as it did. -/
def fnExactValueOfUptoRow : OpenClaim := { program := "ytmmplpflbflekaa", sum := "e629f05f60836774c1af02cff774519a1f5a2dbe5ad3e25778c1b1ac91fbeb40", func := "loop.example/g01278/laws.FnExactValueOf", spec := "fnExactValueOf", unfollowed := true, recurses := true, apart := false, narrowed := true }
def FnExactValueOfUptoSaid : Prop := fnExactValueOfUptoRow.holds Try.pinned (OpenSpec.upto fnExactValueOfSpec)

/-- 'laws.FnExactLastOf', WHERE WHAT IT READS IS OF BULK AT MOST 1048576: true; the input reads as it did. -/
def fnExactLastOfUptoRow : OpenClaim := { program := "ytmmplpflbflekaa", sum := "e629f05f60836774c1af02cff774519a1f5a2dbe5ad3e25778c1b1ac91fbeb40", func := "loop.example/g01278/laws.FnExactLastOf", spec := "fnExactLastOf", unfollowed := true, recurses := true, apart := false, narrowed := true }
def FnExactLastOfUptoSaid : Prop := fnExactLastOfUptoRow.holds Try.pinned (OpenSpec.upto fnExactLastOfSpec)

/-- 'laws.FnExactCompareDigits', WHERE WHAT IT READS IS OF BULK AT MOST 1048576: true; the input reads as it did. -/
def fnExactCompareDigitsUptoRow : OpenClaim := { program := "ytmmplpflbflekaa", sum := "e629f05f60836774c1af02cff774519a1f5a2dbe5ad3e25778c1b1ac91fbeb40", func := "loop.example/g01278/laws.FnExactCompareDigits", spec := "fnExactCompareDigits", unfollowed := true, recurses := true, apart := false, narrowed := true }
def FnExactCompareDigitsUptoSaid : Prop := fnExactCompareDigitsUptoRow.holds Try.pinned (OpenSpec.upto fnExactCompareDigitsSpec)

/-- 'laws.FnExactWayTo', WHERE WHAT IT READS IS OF BULK AT MOST 1048576: true; the input reads as it did. -/
def fnExactWayToUptoRow : OpenClaim := { program := "ytmmplpflbflekaa", sum := "e629f05f60836774c1af02cff774519a1f5a2dbe5ad3e25778c1b1ac91fbeb40", func := "loop.example/g01278/laws.FnExactWayTo", spec := "fnExactWayTo", unfollowed := true, recurses := true, apart := false, narrowed := true }
def FnExactWayToUptoSaid : Prop := fnExactWayToUptoRow.holds Try.pinned (OpenSpec.upto fnExactWayToSpec)

/-- 'laws.FnExactNextWith', WHERE WHAT IT READS IS OF BULK AT MOST 1048576: true; the input reads as it did. -/
def fnExactNextWithUptoRow : OpenClaim := { program := "ytmmplpflbflekaa", sum := "e629f05f60836774c1af02cff774519a1f5a2dbe5ad3e25778c1b1ac91fbeb40", func := "loop.example/g01278/laws.FnExactNextWith", spec := "fnExactNextWith", unfollowed := true, recurses := true, apart := false, narrowed := true }
def FnExactNextWithUptoSaid : Prop := fnExactNextWithUptoRow.holds Try.pinned (OpenSpec.upto fnExactNextWithSpec)

end Rows
end Go.Proofs.Ytmmplpflbflekaa
