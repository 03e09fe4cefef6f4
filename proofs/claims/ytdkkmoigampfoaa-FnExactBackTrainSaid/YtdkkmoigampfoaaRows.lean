/-
  No cell of these rows narrows 'for every input' (looked for: loops, veiled, ifaces, maps, wideKeys, modest, calm, conditions, laid).
  DERIVED. THE GIVEN ROWS OF THIS SEAT. 8 by the template 'for every input the law returns true; each argument reads behind the call as it read before'; 0 by the template 'total and deterministic' (their statements: YtdkkmoigampfoaaTotals.lean).
  GIVEN WITH THE SEED: the statements are not yours to turn. If you find one false, say at which input.
  Laid BY PROGRAM, IN A SANDBOX (cutbox-rows.mjs): the forced cells as the released guide's own fill.sh prints them over the translation 1dc8d02b4f15d413… (all of the seat's roots in one cut). By AI agents, Wed Nov 11 2026. No macro, syntax, notation, axiom, sorry.
-/
import Derived.Test.YtdkkmoigampfoaaChecked
import GoSem.Claim
import GoSem.ClaimJoined
import GoSem.ClaimMapViews
import Derived.JoinedTies
import Derived.KernelRfl
namespace Go.Proofs.Ytdkkmoigampfoaa
/- THE CELL 'sum', in the pinned program and in every row, IS THE sha256 OF THE DUMP (.gsa) THAT YtdkkmoigampfoaaProg.lean LOADS. Nothing in Lean hashes anything: it is a label: what it is worth is what the hold of that sum in a sandbox is worth. -/
noncomputable def Try.pinned : Pinned := { name := "ytdkkmoigampfoaa", sum := "1dc8d02b4f15d413c1a7fceaf7326210088ac769428c4b81df817cda0d232ff7", checked := Try.checked }
namespace Rows
def none {H : Type} : Left H := { results := [], args := [] }

/-- 'laws.FnExactSameTrain': WHATEVER THE INPUT: true; the input reads as it did. -/
def fnExactSameTrainSpec : ChangeSpec := { name := "fnExactSameTrain", fn := fun _ => fun
  | [d1, d2] => { results := [.lit (.bool true)], args := [d1, d2] }
  | _ => none }
def fnExactSameTrainRow : OpenClaim := { program := "ytdkkmoigampfoaa", sum := "1dc8d02b4f15d413c1a7fceaf7326210088ac769428c4b81df817cda0d232ff7", func := "loop.example/g01278/laws.FnExactSameTrain", spec := "fnExactSameTrain", apart := false }
def FnExactSameTrainSaid : Prop := fnExactSameTrainRow.holds Try.pinned (OpenSpec.ofChange fnExactSameTrainSpec)

/-- ITS FALSE NEIGHBOUR: 'it returns false'. Refute it at one input. -/
def fnExactSameTrainWrong : ChangeSpec := { name := "fnExactSameTrain", fn := fun _ => fun
  | [d1, d2] => { results := [.lit (.bool false)], args := [d1, d2] }
  | _ => none }
def FnExactSameTrainWrongFalsely : Prop := fnExactSameTrainRow.holds Try.pinned (OpenSpec.ofChange fnExactSameTrainWrong)

/-- 'laws.FnExactValidTrain': WHATEVER THE INPUT: true; the input reads as it did. -/
def fnExactValidTrainSpec : ChangeSpec := { name := "fnExactValidTrain", fn := fun _ => fun
  | [d] => { results := [.lit (.bool true)], args := [d] }
  | _ => none }
def fnExactValidTrainRow : OpenClaim := { program := "ytdkkmoigampfoaa", sum := "1dc8d02b4f15d413c1a7fceaf7326210088ac769428c4b81df817cda0d232ff7", func := "loop.example/g01278/laws.FnExactValidTrain", spec := "fnExactValidTrain", unfollowed := true, recurses := true, apart := false }
def FnExactValidTrainSaid : Prop := fnExactValidTrainRow.holds Try.pinned (OpenSpec.ofChange fnExactValidTrainSpec)

/-- ITS FALSE NEIGHBOUR: 'it returns false'. Refute it at one input. -/
def fnExactValidTrainWrong : ChangeSpec := { name := "fnExactValidTrain", fn := fun _ => fun
  | [d] => { results := [.lit (.bool false)], args := [d] }
  | _ => none }
def FnExactValidTrainWrongFalsely : Prop := fnExactValidTrainRow.holds Try.pinned (OpenSpec.ofChange fnExactValidTrainWrong)

/-- 'laws.FnExactTeethOf': WHATEVER THE INPUT: true; the input reads as it did. -/
def fnExactTeethOfSpec : ChangeSpec := { name := "fnExactTeethOf", fn := fun _ => fun
  | [d] => { results := [.lit (.bool true)], args := [d] }
  | _ => none }
def fnExactTeethOfRow : OpenClaim := { program := "ytdkkmoigampfoaa", sum := "1dc8d02b4f15d413c1a7fceaf7326210088ac769428c4b81df817cda0d232ff7", func := "loop.example/g01278/laws.FnExactTeethOf", spec := "fnExactTeethOf", unfollowed := true, recurses := true, apart := false }
def FnExactTeethOfSaid : Prop := fnExactTeethOfRow.holds Try.pinned (OpenSpec.ofChange fnExactTeethOfSpec)

/-- ITS FALSE NEIGHBOUR: 'it returns false'. Refute it at one input. -/
def fnExactTeethOfWrong : ChangeSpec := { name := "fnExactTeethOf", fn := fun _ => fun
  | [d] => { results := [.lit (.bool false)], args := [d] }
  | _ => none }
def FnExactTeethOfWrongFalsely : Prop := fnExactTeethOfRow.holds Try.pinned (OpenSpec.ofChange fnExactTeethOfWrong)

/-- 'laws.FnExactBackTrain': WHATEVER THE INPUT: true; the input reads as it did. -/
def fnExactBackTrainSpec : ChangeSpec := { name := "fnExactBackTrain", fn := fun _ => fun
  | [d] => { results := [.lit (.bool true)], args := [d] }
  | _ => none }
def fnExactBackTrainRow : OpenClaim := { program := "ytdkkmoigampfoaa", sum := "1dc8d02b4f15d413c1a7fceaf7326210088ac769428c4b81df817cda0d232ff7", func := "loop.example/g01278/laws.FnExactBackTrain", spec := "fnExactBackTrain", unfollowed := true, recurses := true, apart := false }
def FnExactBackTrainSaid : Prop := fnExactBackTrainRow.holds Try.pinned (OpenSpec.ofChange fnExactBackTrainSpec)

/-- ITS FALSE NEIGHBOUR: 'it returns false'. Refute it at one input. -/
def fnExactBackTrainWrong : ChangeSpec := { name := "fnExactBackTrain", fn := fun _ => fun
  | [d] => { results := [.lit (.bool false)], args := [d] }
  | _ => none }
def FnExactBackTrainWrongFalsely : Prop := fnExactBackTrainRow.holds Try.pinned (OpenSpec.ofChange fnExactBackTrainWrong)

/-- 'laws.FnExactRatioOf': WHATEVER THE INPUT: true; the input reads as it did. -/
def fnExactRatioOfSpec : ChangeSpec := { name := "fnExactRatioOf", fn := fun _ => fun
  | [d] => { results := [.lit (.bool true)], args := [d] }
  | _ => none }
def fnExactRatioOfRow : OpenClaim := { program := "ytdkkmoigampfoaa", sum := "1dc8d02b4f15d413c1a7fceaf7326210088ac769428c4b81df817cda0d232ff7", func := "loop.example/g01278/laws.FnExactRatioOf", spec := "fnExactRatioOf", unfollowed := true, recurses := true, apart := false }
def FnExactRatioOfSaid : Prop := fnExactRatioOfRow.holds Try.pinned (OpenSpec.ofChange fnExactRatioOfSpec)

/-- ITS FALSE NEIGHBOUR: 'it returns false'. Refute it at one input. -/
def fnExactRatioOfWrong : ChangeSpec := { name := "fnExactRatioOf", fn := fun _ => fun
  | [d] => { results := [.lit (.bool false)], args := [d] }
  | _ => none }
def FnExactRatioOfWrongFalsely : Prop := fnExactRatioOfRow.holds Try.pinned (OpenSpec.ofChange fnExactRatioOfWrong)

/-- 'laws.FnExactDrivenCount': WHATEVER THE INPUT: true; the input reads as it did. -/
def fnExactDrivenCountSpec : ChangeSpec := { name := "fnExactDrivenCount", fn := fun _ => fun
  | [d1, d2] => { results := [.lit (.bool true)], args := [d1, d2] }
  | _ => none }
def fnExactDrivenCountRow : OpenClaim := { program := "ytdkkmoigampfoaa", sum := "1dc8d02b4f15d413c1a7fceaf7326210088ac769428c4b81df817cda0d232ff7", func := "loop.example/g01278/laws.FnExactDrivenCount", spec := "fnExactDrivenCount", unfollowed := true, recurses := true, apart := false }
def FnExactDrivenCountSaid : Prop := fnExactDrivenCountRow.holds Try.pinned (OpenSpec.ofChange fnExactDrivenCountSpec)

/-- ITS FALSE NEIGHBOUR: 'it returns false'. Refute it at one input. -/
def fnExactDrivenCountWrong : ChangeSpec := { name := "fnExactDrivenCount", fn := fun _ => fun
  | [d1, d2] => { results := [.lit (.bool false)], args := [d1, d2] }
  | _ => none }
def FnExactDrivenCountWrongFalsely : Prop := fnExactDrivenCountRow.holds Try.pinned (OpenSpec.ofChange fnExactDrivenCountWrong)

/-- 'laws.FnExactOffAfter': WHATEVER THE INPUT: true; the input reads as it did. -/
def fnExactOffAfterSpec : ChangeSpec := { name := "fnExactOffAfter", fn := fun _ => fun
  | [d1, d2, d3] => { results := [.lit (.bool true)], args := [d1, d2, d3] }
  | _ => none }
def fnExactOffAfterRow : OpenClaim := { program := "ytdkkmoigampfoaa", sum := "1dc8d02b4f15d413c1a7fceaf7326210088ac769428c4b81df817cda0d232ff7", func := "loop.example/g01278/laws.FnExactOffAfter", spec := "fnExactOffAfter", unfollowed := true, recurses := true, apart := false }
def FnExactOffAfterSaid : Prop := fnExactOffAfterRow.holds Try.pinned (OpenSpec.ofChange fnExactOffAfterSpec)

/-- ITS FALSE NEIGHBOUR: 'it returns false'. Refute it at one input. -/
def fnExactOffAfterWrong : ChangeSpec := { name := "fnExactOffAfter", fn := fun _ => fun
  | [d1, d2, d3] => { results := [.lit (.bool false)], args := [d1, d2, d3] }
  | _ => none }
def FnExactOffAfterWrongFalsely : Prop := fnExactOffAfterRow.holds Try.pinned (OpenSpec.ofChange fnExactOffAfterWrong)

/-- 'laws.FnExactFirstOff': WHATEVER THE INPUT: true; the input reads as it did. -/
def fnExactFirstOffSpec : ChangeSpec := { name := "fnExactFirstOff", fn := fun _ => fun
  | [d1, d2, d3] => { results := [.lit (.bool true)], args := [d1, d2, d3] }
  | _ => none }
def fnExactFirstOffRow : OpenClaim := { program := "ytdkkmoigampfoaa", sum := "1dc8d02b4f15d413c1a7fceaf7326210088ac769428c4b81df817cda0d232ff7", func := "loop.example/g01278/laws.FnExactFirstOff", spec := "fnExactFirstOff", unfollowed := true, recurses := true, apart := false }
def FnExactFirstOffSaid : Prop := fnExactFirstOffRow.holds Try.pinned (OpenSpec.ofChange fnExactFirstOffSpec)

/-- ITS FALSE NEIGHBOUR: 'it returns false'. Refute it at one input. -/
def fnExactFirstOffWrong : ChangeSpec := { name := "fnExactFirstOff", fn := fun _ => fun
  | [d1, d2, d3] => { results := [.lit (.bool false)], args := [d1, d2, d3] }
  | _ => none }
def FnExactFirstOffWrongFalsely : Prop := fnExactFirstOffRow.holds Try.pinned (OpenSpec.ofChange fnExactFirstOffWrong)

/- THE SECOND FORM. 'bulk': how many values and letters a reading holds, each counted each time it is reached (what is shared counts as often as it is met; a slice's spare places count too). A statement '..UptoSaid' is the law's where the arguments, and the package variables that the reading takes, are together of bulk at most 1048576: NARROWER than '..Said'. Prove '..Said' where nothing that the law and all that it calls make is longer than what came in: it says more and counts as full. Else prove '..UptoSaid'. A law counts once. -/
mutual
def uptoBulk {H : Type} : DataW H → Nat
  | .lit (.string bytes) => bytes.length + 1
  | .lit _ => 1
  | .nil => 1
  | .ptr d => uptoBulk d + 1
  | .slice elems spare => uptoBulkAll elems + uptoBulkAll spare + 1
  | .agg parts => uptoBulkAll parts + 1
  | .iface _ d => uptoBulk d + 1
  | .map entries => uptoBulkEntries entries + 1
  | .held _ => 1
def uptoBulkAll {H : Type} : List (DataW H) → Nat
  | [] => 0
  | d :: r => uptoBulk d + uptoBulkAll r
def uptoBulkEntries {H : Type} : List (Lit × DataW H) → Nat
  | [] => 0
  | x :: r => uptoBulkEntry x + uptoBulkEntries r
def uptoBulkEntry {H : Type} : Lit × DataW H → Nat
  | (.string bytes, d) => bytes.length + uptoBulk d + 1
  | (_, d) => uptoBulk d + 1
 end
def uptoSmall : (H : Type) → List (DataW H) → Bool := fun _ ds => decide (uptoBulkAll ds ≤ 1048576)
def OpenSpec.upto (s : _root_.Go.ChangeSpec) : _root_.Go.OpenSpec := { _root_.Go.OpenSpec.ofChange s with cond := some uptoSmall }

/-- 'laws.FnExactSameTrain', WHERE WHAT IT READS IS OF BULK AT MOST 1048576: true; the input reads as it did. -/
def fnExactSameTrainUptoRow : OpenClaim := { program := "ytdkkmoigampfoaa", sum := "1dc8d02b4f15d413c1a7fceaf7326210088ac769428c4b81df817cda0d232ff7", func := "loop.example/g01278/laws.FnExactSameTrain", spec := "fnExactSameTrain", apart := false, narrowed := true }
def FnExactSameTrainUptoSaid : Prop := fnExactSameTrainUptoRow.holds Try.pinned (OpenSpec.upto fnExactSameTrainSpec)

/-- 'laws.FnExactValidTrain', WHERE WHAT IT READS IS OF BULK AT MOST 1048576: true; the input reads as it did. -/
def fnExactValidTrainUptoRow : OpenClaim := { program := "ytdkkmoigampfoaa", sum := "1dc8d02b4f15d413c1a7fceaf7326210088ac769428c4b81df817cda0d232ff7", func := "loop.example/g01278/laws.FnExactValidTrain", spec := "fnExactValidTrain", unfollowed := true, recurses := true, apart := false, narrowed := true }
def FnExactValidTrainUptoSaid : Prop := fnExactValidTrainUptoRow.holds Try.pinned (OpenSpec.upto fnExactValidTrainSpec)

/-- 'laws.FnExactTeethOf', WHERE WHAT IT READS IS OF BULK AT MOST 1048576: true; the input reads as it did. -/
def fnExactTeethOfUptoRow : OpenClaim := { program := "ytdkkmoigampfoaa", sum := "1dc8d02b4f15d413c1a7fceaf7326210088ac769428c4b81df817cda0d232ff7", func := "loop.example/g01278/laws.FnExactTeethOf", spec := "fnExactTeethOf", unfollowed := true, recurses := true, apart := false, narrowed := true }
def FnExactTeethOfUptoSaid : Prop := fnExactTeethOfUptoRow.holds Try.pinned (OpenSpec.upto fnExactTeethOfSpec)

/-- 'laws.FnExactBackTrain', WHERE WHAT IT READS IS OF BULK AT MOST 1048576: true; the input reads as it did. -/
def fnExactBackTrainUptoRow : OpenClaim := { program := "ytdkkmoigampfoaa", sum := "1dc8d02b4f15d413c1a7fceaf7326210088ac769428c4b81df817cda0d232ff7", func := "loop.example/g01278/laws.FnExactBackTrain", spec := "fnExactBackTrain", unfollowed := true, recurses := true, apart := false, narrowed := true }
def FnExactBackTrainUptoSaid : Prop := fnExactBackTrainUptoRow.holds Try.pinned (OpenSpec.upto fnExactBackTrainSpec)

/-- 'laws.FnExactRatioOf', WHERE WHAT IT READS IS OF BULK AT MOST 1048576: true; the input reads as it did. -/
def fnExactRatioOfUptoRow : OpenClaim := { program := "ytdkkmoigampfoaa", sum := "1dc8d02b4f15d413c1a7fceaf7326210088ac769428c4b81df817cda0d232ff7", func := "loop.example/g01278/laws.FnExactRatioOf", spec := "fnExactRatioOf", unfollowed := true, recurses := true, apart := false, narrowed := true }
def FnExactRatioOfUptoSaid : Prop := fnExactRatioOfUptoRow.holds Try.pinned (OpenSpec.upto fnExactRatioOfSpec)

/-- 'laws.FnExactDrivenCount', WHERE WHAT IT READS IS OF BULK AT MOST 1048576: true; the input reads as it did. -/
def fnExactDrivenCountUptoRow : OpenClaim := { program := "ytdkkmoigampfoaa", sum := "1dc8d02b4f15d413c1a7fceaf7326210088ac769428c4b81df817cda0d232ff7", func := "loop.example/g01278/laws.FnExactDrivenCount", spec := "fnExactDrivenCount", unfollowed := true, recurses := true, apart := false, narrowed := true }
def FnExactDrivenCountUptoSaid : Prop := fnExactDrivenCountUptoRow.holds Try.pinned (OpenSpec.upto fnExactDrivenCountSpec)

/-- 'laws.FnExactOffAfter', WHERE WHAT IT READS IS OF BULK AT MOST 1048576: true; the input reads as it did. -/
def fnExactOffAfterUptoRow : OpenClaim := { program := "ytdkkmoigampfoaa", sum := "1dc8d02b4f15d413c1a7fceaf7326210088ac769428c4b81df817cda0d232ff7", func := "loop.example/g01278/laws.FnExactOffAfter", spec := "fnExactOffAfter", unfollowed := true, recurses := true, apart := false, narrowed := true }
def FnExactOffAfterUptoSaid : Prop := fnExactOffAfterUptoRow.holds Try.pinned (OpenSpec.upto fnExactOffAfterSpec)

/-- 'laws.FnExactFirstOff', WHERE WHAT IT READS IS OF BULK AT MOST 1048576: true; the input reads as it did. -/
def fnExactFirstOffUptoRow : OpenClaim := { program := "ytdkkmoigampfoaa", sum := "1dc8d02b4f15d413c1a7fceaf7326210088ac769428c4b81df817cda0d232ff7", func := "loop.example/g01278/laws.FnExactFirstOff", spec := "fnExactFirstOff", unfollowed := true, recurses := true, apart := false, narrowed := true }
def FnExactFirstOffUptoSaid : Prop := fnExactFirstOffUptoRow.holds Try.pinned (OpenSpec.upto fnExactFirstOffSpec)

end Rows
end Go.Proofs.Ytdkkmoigampfoaa
