/-
  No cell of these rows narrows 'for every input' (looked for: loops, veiled, ifaces, maps, wideKeys, modest, calm, conditions, laid).
  DERIVED. THE GIVEN ROWS OF THIS SEAT. 9 by the template 'for every input the law returns true; each argument reads behind the call as it read before'; 0 by the template 'total and deterministic' (their statements: YtcapjgjjaolofaaTotals.lean).
  GIVEN WITH THE SEED: the statements are not yours to turn. If you find one false, say at which input.
  Laid BY PROGRAM, IN A SANDBOX (cutbox-rows.mjs): the forced cells as the released guide's own fill.sh prints them over the translation 0b1f8416aefde389… (all of the seat's roots in one cut). By AI agents, Wed Nov 11 2026. No macro, syntax, notation, axiom, sorry.
-/
import Derived.Test.YtcapjgjjaolofaaChecked
import GoSem.Claim
import GoSem.ClaimJoined
import GoSem.ClaimMapViews
import Derived.JoinedTies
import Derived.KernelRfl
namespace Go.Proofs.Ytcapjgjjaolofaa
/- THE CELL 'sum', in the pinned program and in every row, IS THE sha256 OF THE DUMP (.gsa) THAT YtcapjgjjaolofaaProg.lean LOADS. Nothing in Lean hashes anything: it is a label: what it is worth is what the hold of that sum in a sandbox is worth. -/
noncomputable def Try.pinned : Pinned := { name := "ytcapjgjjaolofaa", sum := "0b1f8416aefde3898f65243a19eb3167b2d2f24e91778e6ea8ac5d2290fad31b", checked := Try.checked }
namespace Rows
def none {H : Type} : Left H := { results := [], args := [] }

/-- 'laws.FnExactMovesOf': WHATEVER THE INPUT: true; the input reads as it did. -/
def fnExactMovesOfSpec : ChangeSpec := { name := "fnExactMovesOf", fn := fun _ => fun
  | [d1, d2, d3] => { results := [.lit (.bool true)], args := [d1, d2, d3] }
  | _ => none }
def fnExactMovesOfRow : OpenClaim := { program := "ytcapjgjjaolofaa", sum := "0b1f8416aefde3898f65243a19eb3167b2d2f24e91778e6ea8ac5d2290fad31b", func := "loop.example/g01278/laws.FnExactMovesOf", spec := "fnExactMovesOf", unfollowed := true, recurses := true, apart := false }
def FnExactMovesOfSaid : Prop := fnExactMovesOfRow.holds Try.pinned (OpenSpec.ofChange fnExactMovesOfSpec)

/-- ITS FALSE NEIGHBOUR: 'it returns false'. Refute it at one input. -/
def fnExactMovesOfWrong : ChangeSpec := { name := "fnExactMovesOf", fn := fun _ => fun
  | [d1, d2, d3] => { results := [.lit (.bool false)], args := [d1, d2, d3] }
  | _ => none }
def FnExactMovesOfWrongFalsely : Prop := fnExactMovesOfRow.holds Try.pinned (OpenSpec.ofChange fnExactMovesOfWrong)

/-- 'laws.FnExactLeastStack': WHATEVER THE INPUT: true; the input reads as it did. -/
def fnExactLeastStackSpec : ChangeSpec := { name := "fnExactLeastStack", fn := fun _ => fun
  | [d1, d2] => { results := [.lit (.bool true)], args := [d1, d2] }
  | _ => none }
def fnExactLeastStackRow : OpenClaim := { program := "ytcapjgjjaolofaa", sum := "0b1f8416aefde3898f65243a19eb3167b2d2f24e91778e6ea8ac5d2290fad31b", func := "loop.example/g01278/laws.FnExactLeastStack", spec := "fnExactLeastStack", unfollowed := true, recurses := true, apart := false }
def FnExactLeastStackSaid : Prop := fnExactLeastStackRow.holds Try.pinned (OpenSpec.ofChange fnExactLeastStackSpec)

/-- ITS FALSE NEIGHBOUR: 'it returns false'. Refute it at one input. -/
def fnExactLeastStackWrong : ChangeSpec := { name := "fnExactLeastStack", fn := fun _ => fun
  | [d1, d2] => { results := [.lit (.bool false)], args := [d1, d2] }
  | _ => none }
def FnExactLeastStackWrongFalsely : Prop := fnExactLeastStackRow.holds Try.pinned (OpenSpec.ofChange fnExactLeastStackWrong)

/-- 'laws.FnExactSameMotion': WHATEVER THE INPUT: true; the input reads as it did. -/
def fnExactSameMotionSpec : ChangeSpec := { name := "fnExactSameMotion", fn := fun _ => fun
  | [d1, d2] => { results := [.lit (.bool true)], args := [d1, d2] }
  | _ => none }
def fnExactSameMotionRow : OpenClaim := { program := "ytcapjgjjaolofaa", sum := "0b1f8416aefde3898f65243a19eb3167b2d2f24e91778e6ea8ac5d2290fad31b", func := "loop.example/g01278/laws.FnExactSameMotion", spec := "fnExactSameMotion", apart := false }
def FnExactSameMotionSaid : Prop := fnExactSameMotionRow.holds Try.pinned (OpenSpec.ofChange fnExactSameMotionSpec)

/-- ITS FALSE NEIGHBOUR: 'it returns false'. Refute it at one input. -/
def fnExactSameMotionWrong : ChangeSpec := { name := "fnExactSameMotion", fn := fun _ => fun
  | [d1, d2] => { results := [.lit (.bool false)], args := [d1, d2] }
  | _ => none }
def FnExactSameMotionWrongFalsely : Prop := fnExactSameMotionRow.holds Try.pinned (OpenSpec.ofChange fnExactSameMotionWrong)

/-- 'laws.FnExactValidMotion': WHATEVER THE INPUT: true; the input reads as it did. -/
def fnExactValidMotionSpec : ChangeSpec := { name := "fnExactValidMotion", fn := fun _ => fun
  | [d] => { results := [.lit (.bool true)], args := [d] }
  | _ => none }
def fnExactValidMotionRow : OpenClaim := { program := "ytcapjgjjaolofaa", sum := "0b1f8416aefde3898f65243a19eb3167b2d2f24e91778e6ea8ac5d2290fad31b", func := "loop.example/g01278/laws.FnExactValidMotion", spec := "fnExactValidMotion", unfollowed := true, recurses := true, apart := false }
def FnExactValidMotionSaid : Prop := fnExactValidMotionRow.holds Try.pinned (OpenSpec.ofChange fnExactValidMotionSpec)

/-- ITS FALSE NEIGHBOUR: 'it returns false'. Refute it at one input. -/
def fnExactValidMotionWrong : ChangeSpec := { name := "fnExactValidMotion", fn := fun _ => fun
  | [d] => { results := [.lit (.bool false)], args := [d] }
  | _ => none }
def FnExactValidMotionWrongFalsely : Prop := fnExactValidMotionRow.holds Try.pinned (OpenSpec.ofChange fnExactValidMotionWrong)

/-- 'laws.FnExactSpanOf': WHATEVER THE INPUT: true; the input reads as it did. -/
def fnExactSpanOfSpec : ChangeSpec := { name := "fnExactSpanOf", fn := fun _ => fun
  | [d] => { results := [.lit (.bool true)], args := [d] }
  | _ => none }
def fnExactSpanOfRow : OpenClaim := { program := "ytcapjgjjaolofaa", sum := "0b1f8416aefde3898f65243a19eb3167b2d2f24e91778e6ea8ac5d2290fad31b", func := "loop.example/g01278/laws.FnExactSpanOf", spec := "fnExactSpanOf", unfollowed := true, recurses := true, apart := false }
def FnExactSpanOfSaid : Prop := fnExactSpanOfRow.holds Try.pinned (OpenSpec.ofChange fnExactSpanOfSpec)

/-- ITS FALSE NEIGHBOUR: 'it returns false'. Refute it at one input. -/
def fnExactSpanOfWrong : ChangeSpec := { name := "fnExactSpanOf", fn := fun _ => fun
  | [d] => { results := [.lit (.bool false)], args := [d] }
  | _ => none }
def FnExactSpanOfWrongFalsely : Prop := fnExactSpanOfRow.holds Try.pinned (OpenSpec.ofChange fnExactSpanOfWrong)

/-- 'laws.FnExactTurnBy': WHATEVER THE INPUT: true; the input reads as it did. -/
def fnExactTurnBySpec : ChangeSpec := { name := "fnExactTurnBy", fn := fun _ => fun
  | [d1, d2, d3] => { results := [.lit (.bool true)], args := [d1, d2, d3] }
  | _ => none }
def fnExactTurnByRow : OpenClaim := { program := "ytcapjgjjaolofaa", sum := "0b1f8416aefde3898f65243a19eb3167b2d2f24e91778e6ea8ac5d2290fad31b", func := "loop.example/g01278/laws.FnExactTurnBy", spec := "fnExactTurnBy", unfollowed := true, recurses := true, apart := false }
def FnExactTurnBySaid : Prop := fnExactTurnByRow.holds Try.pinned (OpenSpec.ofChange fnExactTurnBySpec)

/-- ITS FALSE NEIGHBOUR: 'it returns false'. Refute it at one input. -/
def fnExactTurnByWrong : ChangeSpec := { name := "fnExactTurnBy", fn := fun _ => fun
  | [d1, d2, d3] => { results := [.lit (.bool false)], args := [d1, d2, d3] }
  | _ => none }
def FnExactTurnByWrongFalsely : Prop := fnExactTurnByRow.holds Try.pinned (OpenSpec.ofChange fnExactTurnByWrong)

/-- 'laws.FnExactBumpParts': WHATEVER THE INPUT: true; the input reads as it did. -/
def fnExactBumpPartsSpec : ChangeSpec := { name := "fnExactBumpParts", fn := fun _ => fun
  | [d1, d2, d3, d4] => { results := [.lit (.bool true)], args := [d1, d2, d3, d4] }
  | _ => none }
def fnExactBumpPartsRow : OpenClaim := { program := "ytcapjgjjaolofaa", sum := "0b1f8416aefde3898f65243a19eb3167b2d2f24e91778e6ea8ac5d2290fad31b", func := "loop.example/g01278/laws.FnExactBumpParts", spec := "fnExactBumpParts", unfollowed := true, recurses := true, apart := false }
def FnExactBumpPartsSaid : Prop := fnExactBumpPartsRow.holds Try.pinned (OpenSpec.ofChange fnExactBumpPartsSpec)

/-- ITS FALSE NEIGHBOUR: 'it returns false'. Refute it at one input. -/
def fnExactBumpPartsWrong : ChangeSpec := { name := "fnExactBumpParts", fn := fun _ => fun
  | [d1, d2, d3, d4] => { results := [.lit (.bool false)], args := [d1, d2, d3, d4] }
  | _ => none }
def FnExactBumpPartsWrongFalsely : Prop := fnExactBumpPartsRow.holds Try.pinned (OpenSpec.ofChange fnExactBumpPartsWrong)

/-- 'laws.FnExactEyeReads': WHATEVER THE INPUT: true; the input reads as it did. -/
def fnExactEyeReadsSpec : ChangeSpec := { name := "fnExactEyeReads", fn := fun _ => fun
  | [d1, d2, d3] => { results := [.lit (.bool true)], args := [d1, d2, d3] }
  | _ => none }
def fnExactEyeReadsRow : OpenClaim := { program := "ytcapjgjjaolofaa", sum := "0b1f8416aefde3898f65243a19eb3167b2d2f24e91778e6ea8ac5d2290fad31b", func := "loop.example/g01278/laws.FnExactEyeReads", spec := "fnExactEyeReads", unfollowed := true, recurses := true, apart := false }
def FnExactEyeReadsSaid : Prop := fnExactEyeReadsRow.holds Try.pinned (OpenSpec.ofChange fnExactEyeReadsSpec)

/-- ITS FALSE NEIGHBOUR: 'it returns false'. Refute it at one input. -/
def fnExactEyeReadsWrong : ChangeSpec := { name := "fnExactEyeReads", fn := fun _ => fun
  | [d1, d2, d3] => { results := [.lit (.bool false)], args := [d1, d2, d3] }
  | _ => none }
def FnExactEyeReadsWrongFalsely : Prop := fnExactEyeReadsRow.holds Try.pinned (OpenSpec.ofChange fnExactEyeReadsWrong)

/-- 'laws.FnExactRightFrom': WHATEVER THE INPUT: true; the input reads as it did. -/
def fnExactRightFromSpec : ChangeSpec := { name := "fnExactRightFrom", fn := fun _ => fun
  | [d1, d2] => { results := [.lit (.bool true)], args := [d1, d2] }
  | _ => none }
def fnExactRightFromRow : OpenClaim := { program := "ytcapjgjjaolofaa", sum := "0b1f8416aefde3898f65243a19eb3167b2d2f24e91778e6ea8ac5d2290fad31b", func := "loop.example/g01278/laws.FnExactRightFrom", spec := "fnExactRightFrom", unfollowed := true, recurses := true, apart := false }
def FnExactRightFromSaid : Prop := fnExactRightFromRow.holds Try.pinned (OpenSpec.ofChange fnExactRightFromSpec)

/-- ITS FALSE NEIGHBOUR: 'it returns false'. Refute it at one input. -/
def fnExactRightFromWrong : ChangeSpec := { name := "fnExactRightFrom", fn := fun _ => fun
  | [d1, d2] => { results := [.lit (.bool false)], args := [d1, d2] }
  | _ => none }
def FnExactRightFromWrongFalsely : Prop := fnExactRightFromRow.holds Try.pinned (OpenSpec.ofChange fnExactRightFromWrong)

/- THE SECOND FORM. 'bulk': how many values and letters a reading holds, each counted each time it is reached (what is shared counts as often as it is met; a slice's spare places count too). A statement '..UptoSaid' is the law's where the arguments, and the package variables that the reading takes, are together of bulk at most 1048576: NARROWER than '..Said'. Prove '..Said' where nothing that the law and all that it calls make is longer than what came in: it says more and counts as full. Else prove '..UptoSaid'. A law counts once. -/
mutual
def uptoBulk {H : Type} : DataW H → Nat
  | .lit (.string bytes) => bytes.length + 1
  | .lit _ => 1
  | .nil => 1
  | .ptr d => uptoBulk d + 1
  | .slice elems spare => uptoBulkAll elems + uptoBulkAll spare + 1
  | .agg parts => uptoBulkAll parts + 1
  | .iface _ d => uptoBulk d + 1
  | .map entries => uptoBulkEntries entries + 1
  | .held _ => 1
def uptoBulkAll {H : Type} : List (DataW H) → Nat
  | [] => 0
  | d :: r => uptoBulk d + uptoBulkAll r
def uptoBulkEntries {H : Type} : List (Lit × DataW H) → Nat
  | [] => 0
  | x :: r => uptoBulkEntry x + uptoBulkEntries r
def uptoBulkEntry {H : Type} : Lit × DataW H → Nat
  | (.string bytes, d) => bytes.length + uptoBulk d + 1
  | (_, d) => uptoBulk d + 1
 end
def uptoSmall : (H : Type) → List (DataW H) → Bool := fun _ ds => decide (uptoBulkAll ds ≤ 1048576)
def OpenSpec.upto (s : _root_.Go.ChangeSpec) : _root_.Go.OpenSpec := { _root_.Go.OpenSpec.ofChange s with cond := some uptoSmall }

/-- 'laws.FnExactMovesOf', WHERE WHAT IT READS IS OF BULK AT MOST 1048576: true; the input reads as it did. -/
def fnExactMovesOfUptoRow : OpenClaim := { program := "ytcapjgjjaolofaa", sum := "0b1f8416aefde3898f65243a19eb3167b2d2f24e91778e6ea8ac5d2290fad31b", func := "loop.example/g01278/laws.FnExactMovesOf", spec := "fnExactMovesOf", unfollowed := true, recurses := true, apart := false, narrowed := true }
def FnExactMovesOfUptoSaid : Prop := fnExactMovesOfUptoRow.holds Try.pinned (OpenSpec.upto fnExactMovesOfSpec)

/-- 'laws.FnExactLeastStack', WHERE WHAT IT READS IS OF BULK AT MOST 1048576: true; the input reads as it did. -/
def fnExactLeastStackUptoRow : OpenClaim := { program := "ytcapjgjjaolofaa", sum := "0b1f8416aefde3898f65243a19eb3167b2d2f24e91778e6ea8ac5d2290fad31b", func := "loop.example/g01278/laws.FnExactLeastStack", spec := "fnExactLeastStack", unfollowed := true, recurses := true, apart := false, narrowed := true }
def FnExactLeastStackUptoSaid : Prop := fnExactLeastStackUptoRow.holds Try.pinned (OpenSpec.upto fnExactLeastStackSpec)

/-- 'laws.FnExactSameMotion', WHERE WHAT IT READS IS OF BULK AT MOST 1048576: true; the input reads as it did. -/
def fnExactSameMotionUptoRow : OpenClaim := { program := "ytcapjgjjaolofaa", sum := "0b1f8416aefde3898f65243a19eb3167b2d2f24e91778e6ea8ac5d2290fad31b", func := "loop.example/g01278/laws.FnExactSameMotion", spec := "fnExactSameMotion", apart := false, narrowed := true }
def FnExactSameMotionUptoSaid : Prop := fnExactSameMotionUptoRow.holds Try.pinned (OpenSpec.upto fnExactSameMotionSpec)

/-- 'laws.FnExactValidMotion', WHERE WHAT IT READS IS OF BULK AT MOST 1048576: true; the input reads as it did. -/
def fnExactValidMotionUptoRow : OpenClaim := { program := "ytcapjgjjaolofaa", sum := "0b1f8416aefde3898f65243a19eb3167b2d2f24e91778e6ea8ac5d2290fad31b", func := "loop.example/g01278/laws.FnExactValidMotion", spec := "fnExactValidMotion", unfollowed := true, recurses := true, apart := false, narrowed := true }
def FnExactValidMotionUptoSaid : Prop := fnExactValidMotionUptoRow.holds Try.pinned (OpenSpec.upto fnExactValidMotionSpec)

/-- 'laws.FnExactSpanOf', WHERE WHAT IT READS IS OF BULK AT MOST 1048576: true; the input reads as it did. -/
def fnExactSpanOfUptoRow : OpenClaim := { program := "ytcapjgjjaolofaa", sum := "0b1f8416aefde3898f65243a19eb3167b2d2f24e91778e6ea8ac5d2290fad31b", func := "loop.example/g01278/laws.FnExactSpanOf", spec := "fnExactSpanOf", unfollowed := true, recurses := true, apart := false, narrowed := true }
def FnExactSpanOfUptoSaid : Prop := fnExactSpanOfUptoRow.holds Try.pinned (OpenSpec.upto fnExactSpanOfSpec)

/-- 'laws.FnExactTurnBy', WHERE WHAT IT READS IS OF BULK AT MOST 1048576: true; the input reads as it did. -/
def fnExactTurnByUptoRow : OpenClaim := { program := "ytcapjgjjaolofaa", sum := "0b1f8416aefde3898f65243a19eb3167b2d2f24e91778e6ea8ac5d2290fad31b", func := "loop.example/g01278/laws.FnExactTurnBy", spec := "fnExactTurnBy", unfollowed := true, recurses := true, apart := false, narrowed := true }
def FnExactTurnByUptoSaid : Prop := fnExactTurnByUptoRow.holds Try.pinned (OpenSpec.upto fnExactTurnBySpec)

/-- 'laws.FnExactBumpParts', WHERE WHAT IT READS IS OF BULK AT MOST 1048576: true; the input reads as it did. -/
def fnExactBumpPartsUptoRow : OpenClaim := { program := "ytcapjgjjaolofaa", sum := "0b1f8416aefde3898f65243a19eb3167b2d2f24e91778e6ea8ac5d2290fad31b", func := "loop.example/g01278/laws.FnExactBumpParts", spec := "fnExactBumpParts", unfollowed := true, recurses := true, apart := false, narrowed := true }
def FnExactBumpPartsUptoSaid : Prop := fnExactBumpPartsUptoRow.holds Try.pinned (OpenSpec.upto fnExactBumpPartsSpec)

/-- 'laws.FnExactEyeReads', WHERE WHAT IT READS IS OF BULK AT MOST 1048576: true; the input reads as it did. -/
def fnExactEyeReadsUptoRow : OpenClaim := { program := "ytcapjgjjaolofaa", sum := "0b1f8416aefde3898f65243a19eb3167b2d2f24e91778e6ea8ac5d2290fad31b", func := "loop.example/g01278/laws.FnExactEyeReads", spec := "fnExactEyeReads", unfollowed := true, recurses := true, apart := false, narrowed := true }
def FnExactEyeReadsUptoSaid : Prop := fnExactEyeReadsUptoRow.holds Try.pinned (OpenSpec.upto fnExactEyeReadsSpec)

/-- 'laws.FnExactRightFrom', WHERE WHAT IT READS IS OF BULK AT MOST 1048576: true; the input reads as it did. -/
def fnExactRightFromUptoRow : OpenClaim := { program := "ytcapjgjjaolofaa", sum := "0b1f8416aefde3898f65243a19eb3167b2d2f24e91778e6ea8ac5d2290fad31b", func := "loop.example/g01278/laws.FnExactRightFrom", spec := "fnExactRightFrom", unfollowed := true, recurses := true, apart := false, narrowed := true }
def FnExactRightFromUptoSaid : Prop := fnExactRightFromUptoRow.holds Try.pinned (OpenSpec.upto fnExactRightFromSpec)

end Rows
end Go.Proofs.Ytcapjgjjaolofaa
