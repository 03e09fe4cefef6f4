/-
  No cell of these rows narrows 'for every input' (looked for: loops, veiled, ifaces, maps, wideKeys, modest, calm, conditions, laid).
  DERIVED. THE GIVEN ROWS OF THIS SEAT. 12 by the template 'for every input the law returns true; each argument reads behind the call as it read before'; 0 by the template 'total and deterministic' (their statements: YtnedmhmliknfgaaTotals.lean).
  GIVEN WITH THE SEED: the statements are not yours to turn. If you find one false, say at which input.
  Laid BY PROGRAM, IN A SANDBOX (cutbox-rows.mjs): the forced cells as the released guide's own fill.sh prints them over the translation f3dd5f43ab6fc6dc… (all of the seat's roots in one cut). By AI agents, Wed Nov 11 2026. No macro, syntax, notation, axiom, sorry.
-/
import Derived.Test.YtnedmhmliknfgaaChecked
import GoSem.Claim
import GoSem.ClaimJoined
import GoSem.ClaimMapViews
import Derived.JoinedTies
import Derived.KernelRfl
namespace Go.Proofs.Ytnedmhmliknfgaa
/- THE CELL 'sum', in the pinned program and in every row, IS THE sha256 OF THE DUMP (.gsa) THAT YtnedmhmliknfgaaProg.lean LOADS. Nothing in Lean hashes anything: it is a label: what it is worth is what the hold of that sum in a sandbox is worth. -/
noncomputable def Try.pinned : Pinned := { name := "ytnedmhmliknfgaa", sum := "f3dd5f43ab6fc6dc3265ff86a1ddd725dbd10f252166a53d07f41c9d697ab28c", checked := Try.checked }
namespace Rows
def none {H : Type} : Left H := { results := [], args := [] }

/-- 'laws.FnExactConstants': WHATEVER THE INPUT: true; the input reads as it did. -/
def fnExactConstantsSpec : ChangeSpec := { name := "fnExactConstants", fn := fun _ => fun
  | [] => { results := [.lit (.bool true)], args := [] }
  | _ => none }
def fnExactConstantsRow : OpenClaim := { program := "ytnedmhmliknfgaa", sum := "f3dd5f43ab6fc6dc3265ff86a1ddd725dbd10f252166a53d07f41c9d697ab28c", func := "loop.example/g01278/laws.FnExactConstants", spec := "fnExactConstants", apart := false }
def FnExactConstantsSaid : Prop := fnExactConstantsRow.holds Try.pinned (OpenSpec.ofChange fnExactConstantsSpec)

/-- ITS FALSE NEIGHBOUR: 'it returns false'. Refute it at one input. -/
def fnExactConstantsWrong : ChangeSpec := { name := "fnExactConstants", fn := fun _ => fun
  | [] => { results := [.lit (.bool false)], args := [] }
  | _ => none }
def FnExactConstantsWrongFalsely : Prop := fnExactConstantsRow.holds Try.pinned (OpenSpec.ofChange fnExactConstantsWrong)

/-- 'laws.FnExactValidFlow': WHATEVER THE INPUT: true; the input reads as it did. -/
def fnExactValidFlowSpec : ChangeSpec := { name := "fnExactValidFlow", fn := fun _ => fun
  | [d] => { results := [.lit (.bool true)], args := [d] }
  | _ => none }
def fnExactValidFlowRow : OpenClaim := { program := "ytnedmhmliknfgaa", sum := "f3dd5f43ab6fc6dc3265ff86a1ddd725dbd10f252166a53d07f41c9d697ab28c", func := "loop.example/g01278/laws.FnExactValidFlow", spec := "fnExactValidFlow", apart := false }
def FnExactValidFlowSaid : Prop := fnExactValidFlowRow.holds Try.pinned (OpenSpec.ofChange fnExactValidFlowSpec)

/-- ITS FALSE NEIGHBOUR: 'it returns false'. Refute it at one input. -/
def fnExactValidFlowWrong : ChangeSpec := { name := "fnExactValidFlow", fn := fun _ => fun
  | [d] => { results := [.lit (.bool false)], args := [d] }
  | _ => none }
def FnExactValidFlowWrongFalsely : Prop := fnExactValidFlowRow.holds Try.pinned (OpenSpec.ofChange fnExactValidFlowWrong)

/-- 'laws.FnExactCodeName': WHATEVER THE INPUT: true; the input reads as it did. -/
def fnExactCodeNameSpec : ChangeSpec := { name := "fnExactCodeName", fn := fun _ => fun
  | [d] => { results := [.lit (.bool true)], args := [d] }
  | _ => none }
def fnExactCodeNameRow : OpenClaim := { program := "ytnedmhmliknfgaa", sum := "f3dd5f43ab6fc6dc3265ff86a1ddd725dbd10f252166a53d07f41c9d697ab28c", func := "loop.example/g01278/laws.FnExactCodeName", spec := "fnExactCodeName", apart := false }
def FnExactCodeNameSaid : Prop := fnExactCodeNameRow.holds Try.pinned (OpenSpec.ofChange fnExactCodeNameSpec)

/-- ITS FALSE NEIGHBOUR: 'it returns false'. Refute it at one input. -/
def fnExactCodeNameWrong : ChangeSpec := { name := "fnExactCodeName", fn := fun _ => fun
  | [d] => { results := [.lit (.bool false)], args := [d] }
  | _ => none }
def FnExactCodeNameWrongFalsely : Prop := fnExactCodeNameRow.holds Try.pinned (OpenSpec.ofChange fnExactCodeNameWrong)

/-- 'laws.FnExactRestAt': WHATEVER THE INPUT: true; the input reads as it did. -/
def fnExactRestAtSpec : ChangeSpec := { name := "fnExactRestAt", fn := fun _ => fun
  | [d1, d2] => { results := [.lit (.bool true)], args := [d1, d2] }
  | _ => none }
def fnExactRestAtRow : OpenClaim := { program := "ytnedmhmliknfgaa", sum := "f3dd5f43ab6fc6dc3265ff86a1ddd725dbd10f252166a53d07f41c9d697ab28c", func := "loop.example/g01278/laws.FnExactRestAt", spec := "fnExactRestAt", apart := false }
def FnExactRestAtSaid : Prop := fnExactRestAtRow.holds Try.pinned (OpenSpec.ofChange fnExactRestAtSpec)

/-- ITS FALSE NEIGHBOUR: 'it returns false'. Refute it at one input. -/
def fnExactRestAtWrong : ChangeSpec := { name := "fnExactRestAt", fn := fun _ => fun
  | [d1, d2] => { results := [.lit (.bool false)], args := [d1, d2] }
  | _ => none }
def FnExactRestAtWrongFalsely : Prop := fnExactRestAtRow.holds Try.pinned (OpenSpec.ofChange fnExactRestAtWrong)

/-- 'laws.FnExactClicksOf': WHATEVER THE INPUT: true; the input reads as it did. -/
def fnExactClicksOfSpec : ChangeSpec := { name := "fnExactClicksOf", fn := fun _ => fun
  | [d1, d2, d3] => { results := [.lit (.bool true)], args := [d1, d2, d3] }
  | _ => none }
def fnExactClicksOfRow : OpenClaim := { program := "ytnedmhmliknfgaa", sum := "f3dd5f43ab6fc6dc3265ff86a1ddd725dbd10f252166a53d07f41c9d697ab28c", func := "loop.example/g01278/laws.FnExactClicksOf", spec := "fnExactClicksOf", apart := false }
def FnExactClicksOfSaid : Prop := fnExactClicksOfRow.holds Try.pinned (OpenSpec.ofChange fnExactClicksOfSpec)

/-- ITS FALSE NEIGHBOUR: 'it returns false'. Refute it at one input. -/
def fnExactClicksOfWrong : ChangeSpec := { name := "fnExactClicksOf", fn := fun _ => fun
  | [d1, d2, d3] => { results := [.lit (.bool false)], args := [d1, d2, d3] }
  | _ => none }
def FnExactClicksOfWrongFalsely : Prop := fnExactClicksOfRow.holds Try.pinned (OpenSpec.ofChange fnExactClicksOfWrong)

/-- 'laws.FnExactValidRatio': WHATEVER THE INPUT: true; the input reads as it did. -/
def fnExactValidRatioSpec : ChangeSpec := { name := "fnExactValidRatio", fn := fun _ => fun
  | [d] => { results := [.lit (.bool true)], args := [d] }
  | _ => none }
def fnExactValidRatioRow : OpenClaim := { program := "ytnedmhmliknfgaa", sum := "f3dd5f43ab6fc6dc3265ff86a1ddd725dbd10f252166a53d07f41c9d697ab28c", func := "loop.example/g01278/laws.FnExactValidRatio", spec := "fnExactValidRatio", apart := false }
def FnExactValidRatioSaid : Prop := fnExactValidRatioRow.holds Try.pinned (OpenSpec.ofChange fnExactValidRatioSpec)

/-- ITS FALSE NEIGHBOUR: 'it returns false'. Refute it at one input. -/
def fnExactValidRatioWrong : ChangeSpec := { name := "fnExactValidRatio", fn := fun _ => fun
  | [d] => { results := [.lit (.bool false)], args := [d] }
  | _ => none }
def FnExactValidRatioWrongFalsely : Prop := fnExactValidRatioRow.holds Try.pinned (OpenSpec.ofChange fnExactValidRatioWrong)

/-- 'laws.FnExactCompareRatios': WHATEVER THE INPUT: true; the input reads as it did. -/
def fnExactCompareRatiosSpec : ChangeSpec := { name := "fnExactCompareRatios", fn := fun _ => fun
  | [d1, d2] => { results := [.lit (.bool true)], args := [d1, d2] }
  | _ => none }
def fnExactCompareRatiosRow : OpenClaim := { program := "ytnedmhmliknfgaa", sum := "f3dd5f43ab6fc6dc3265ff86a1ddd725dbd10f252166a53d07f41c9d697ab28c", func := "loop.example/g01278/laws.FnExactCompareRatios", spec := "fnExactCompareRatios", apart := false }
def FnExactCompareRatiosSaid : Prop := fnExactCompareRatiosRow.holds Try.pinned (OpenSpec.ofChange fnExactCompareRatiosSpec)

/-- ITS FALSE NEIGHBOUR: 'it returns false'. Refute it at one input. -/
def fnExactCompareRatiosWrong : ChangeSpec := { name := "fnExactCompareRatios", fn := fun _ => fun
  | [d1, d2] => { results := [.lit (.bool false)], args := [d1, d2] }
  | _ => none }
def FnExactCompareRatiosWrongFalsely : Prop := fnExactCompareRatiosRow.holds Try.pinned (OpenSpec.ofChange fnExactCompareRatiosWrong)

/-- 'laws.FnExactMakeRatio': WHATEVER THE INPUT: true; the input reads as it did. -/
def fnExactMakeRatioSpec : ChangeSpec := { name := "fnExactMakeRatio", fn := fun _ => fun
  | [d1, d2] => { results := [.lit (.bool true)], args := [d1, d2] }
  | _ => none }
def fnExactMakeRatioRow : OpenClaim := { program := "ytnedmhmliknfgaa", sum := "f3dd5f43ab6fc6dc3265ff86a1ddd725dbd10f252166a53d07f41c9d697ab28c", func := "loop.example/g01278/laws.FnExactMakeRatio", spec := "fnExactMakeRatio", apart := false }
def FnExactMakeRatioSaid : Prop := fnExactMakeRatioRow.holds Try.pinned (OpenSpec.ofChange fnExactMakeRatioSpec)

/-- ITS FALSE NEIGHBOUR: 'it returns false'. Refute it at one input. -/
def fnExactMakeRatioWrong : ChangeSpec := { name := "fnExactMakeRatio", fn := fun _ => fun
  | [d1, d2] => { results := [.lit (.bool false)], args := [d1, d2] }
  | _ => none }
def FnExactMakeRatioWrongFalsely : Prop := fnExactMakeRatioRow.holds Try.pinned (OpenSpec.ofChange fnExactMakeRatioWrong)

/-- 'laws.FnExactTimesRatio': WHATEVER THE INPUT: true; the input reads as it did. -/
def fnExactTimesRatioSpec : ChangeSpec := { name := "fnExactTimesRatio", fn := fun _ => fun
  | [d1, d2] => { results := [.lit (.bool true)], args := [d1, d2] }
  | _ => none }
def fnExactTimesRatioRow : OpenClaim := { program := "ytnedmhmliknfgaa", sum := "f3dd5f43ab6fc6dc3265ff86a1ddd725dbd10f252166a53d07f41c9d697ab28c", func := "loop.example/g01278/laws.FnExactTimesRatio", spec := "fnExactTimesRatio", apart := false }
def FnExactTimesRatioSaid : Prop := fnExactTimesRatioRow.holds Try.pinned (OpenSpec.ofChange fnExactTimesRatioSpec)

/-- ITS FALSE NEIGHBOUR: 'it returns false'. Refute it at one input. -/
def fnExactTimesRatioWrong : ChangeSpec := { name := "fnExactTimesRatio", fn := fun _ => fun
  | [d1, d2] => { results := [.lit (.bool false)], args := [d1, d2] }
  | _ => none }
def FnExactTimesRatioWrongFalsely : Prop := fnExactTimesRatioRow.holds Try.pinned (OpenSpec.ofChange fnExactTimesRatioWrong)

/-- 'laws.FnExactNearerRatio': WHATEVER THE INPUT: true; the input reads as it did. -/
def fnExactNearerRatioSpec : ChangeSpec := { name := "fnExactNearerRatio", fn := fun _ => fun
  | [d1, d2, d3] => { results := [.lit (.bool true)], args := [d1, d2, d3] }
  | _ => none }
def fnExactNearerRatioRow : OpenClaim := { program := "ytnedmhmliknfgaa", sum := "f3dd5f43ab6fc6dc3265ff86a1ddd725dbd10f252166a53d07f41c9d697ab28c", func := "loop.example/g01278/laws.FnExactNearerRatio", spec := "fnExactNearerRatio", apart := false }
def FnExactNearerRatioSaid : Prop := fnExactNearerRatioRow.holds Try.pinned (OpenSpec.ofChange fnExactNearerRatioSpec)

/-- ITS FALSE NEIGHBOUR: 'it returns false'. Refute it at one input. -/
def fnExactNearerRatioWrong : ChangeSpec := { name := "fnExactNearerRatio", fn := fun _ => fun
  | [d1, d2, d3] => { results := [.lit (.bool false)], args := [d1, d2, d3] }
  | _ => none }
def FnExactNearerRatioWrongFalsely : Prop := fnExactNearerRatioRow.holds Try.pinned (OpenSpec.ofChange fnExactNearerRatioWrong)

/-- 'laws.FnExactPairFor': WHATEVER THE INPUT: true; the input reads as it did. -/
def fnExactPairForSpec : ChangeSpec := { name := "fnExactPairFor", fn := fun _ => fun
  | [d] => { results := [.lit (.bool true)], args := [d] }
  | _ => none }
def fnExactPairForRow : OpenClaim := { program := "ytnedmhmliknfgaa", sum := "f3dd5f43ab6fc6dc3265ff86a1ddd725dbd10f252166a53d07f41c9d697ab28c", func := "loop.example/g01278/laws.FnExactPairFor", spec := "fnExactPairFor", apart := false }
def FnExactPairForSaid : Prop := fnExactPairForRow.holds Try.pinned (OpenSpec.ofChange fnExactPairForSpec)

/-- ITS FALSE NEIGHBOUR: 'it returns false'. Refute it at one input. -/
def fnExactPairForWrong : ChangeSpec := { name := "fnExactPairFor", fn := fun _ => fun
  | [d] => { results := [.lit (.bool false)], args := [d] }
  | _ => none }
def FnExactPairForWrongFalsely : Prop := fnExactPairForRow.holds Try.pinned (OpenSpec.ofChange fnExactPairForWrong)

/-- 'laws.FnExactNearestRatio': WHATEVER THE INPUT: true; the input reads as it did. -/
def fnExactNearestRatioSpec : ChangeSpec := { name := "fnExactNearestRatio", fn := fun _ => fun
  | [d1, d2] => { results := [.lit (.bool true)], args := [d1, d2] }
  | _ => none }
def fnExactNearestRatioRow : OpenClaim := { program := "ytnedmhmliknfgaa", sum := "f3dd5f43ab6fc6dc3265ff86a1ddd725dbd10f252166a53d07f41c9d697ab28c", func := "loop.example/g01278/laws.FnExactNearestRatio", spec := "fnExactNearestRatio", apart := false }
def FnExactNearestRatioSaid : Prop := fnExactNearestRatioRow.holds Try.pinned (OpenSpec.ofChange fnExactNearestRatioSpec)

/-- ITS FALSE NEIGHBOUR: 'it returns false'. Refute it at one input. -/
def fnExactNearestRatioWrong : ChangeSpec := { name := "fnExactNearestRatio", fn := fun _ => fun
  | [d1, d2] => { results := [.lit (.bool false)], args := [d1, d2] }
  | _ => none }
def FnExactNearestRatioWrongFalsely : Prop := fnExactNearestRatioRow.holds Try.pinned (OpenSpec.ofChange fnExactNearestRatioWrong)

/- THE SECOND FORM. 'bulk': how many values and letters a reading holds, each counted each time it is reached (what is shared counts as often as it is met; a slice's spare places count too). A statement '..UptoSaid' is the law's where the arguments, and the package variables that the reading takes, are together of bulk at most 1048576: NARROWER than '..Said'. Prove '..Said' where nothing that the law and all that it calls make is longer than what came in: it says more and counts as full. Else prove '..UptoSaid'. A law counts once. -/
mutual
def uptoBulk {H : Type} : DataW H → Nat
  | .lit (.string bytes) => bytes.length + 1
  | .lit _ => 1
  | .nil => 1
  | .ptr d => uptoBulk d + 1
  | .slice elems spare => uptoBulkAll elems + uptoBulkAll spare + 1
  | .agg parts => uptoBulkAll parts + 1
  | .iface _ d => uptoBulk d + 1
  | .map entries => uptoBulkEntries entries + 1
  | .held _ => 1
def uptoBulkAll {H : Type} : List (DataW H) → Nat
  | [] => 0
  | d :: r => uptoBulk d + uptoBulkAll r
def uptoBulkEntries {H : Type} : List (Lit × DataW H) → Nat
  | [] => 0
  | x :: r => uptoBulkEntry x + uptoBulkEntries r
def uptoBulkEntry {H : Type} : Lit × DataW H → Nat
  | (.string bytes, d) => bytes.length + uptoBulk d + 1
  | (_, d) => uptoBulk d + 1
 end
def uptoSmall : (H : Type) → List (DataW H) → Bool := fun _ ds => decide (uptoBulkAll ds ≤ 1048576)
def OpenSpec.upto (s : _root_.Go.ChangeSpec) : _root_.Go.OpenSpec := { _root_.Go.OpenSpec.ofChange s with cond := some uptoSmall }

/-- 'laws.FnExactConstants', WHERE WHAT IT READS IS OF BULK AT MOST 1048576: true; the input reads as it did. -/
def fnExactConstantsUptoRow : OpenClaim := { program := "ytnedmhmliknfgaa", sum := "f3dd5f43ab6fc6dc3265ff86a1ddd725dbd10f252166a53d07f41c9d697ab28c", func := "loop.example/g01278/laws.FnExactConstants", spec := "fnExactConstants", apart := false, narrowed := true }
def FnExactConstantsUptoSaid : Prop := fnExactConstantsUptoRow.holds Try.pinned (OpenSpec.upto fnExactConstantsSpec)

/-- 'laws.FnExactValidFlow', WHERE WHAT IT READS IS OF BULK AT MOST 1048576: true; the input reads as it did. -/
def fnExactValidFlowUptoRow : OpenClaim := { program := "ytnedmhmliknfgaa", sum := "f3dd5f43ab6fc6dc3265ff86a1ddd725dbd10f252166a53d07f41c9d697ab28c", func := "loop.example/g01278/laws.FnExactValidFlow", spec := "fnExactValidFlow", apart := false, narrowed := true }
def FnExactValidFlowUptoSaid : Prop := fnExactValidFlowUptoRow.holds Try.pinned (OpenSpec.upto fnExactValidFlowSpec)

/-- 'laws.FnExactCodeName', WHERE WHAT IT READS IS OF BULK AT MOST 1048576: true; the input reads as it did. -/
def fnExactCodeNameUptoRow : OpenClaim := { program := "ytnedmhmliknfgaa", sum := "f3dd5f43ab6fc6dc3265ff86a1ddd725dbd10f252166a53d07f41c9d697ab28c", func := "loop.example/g01278/laws.FnExactCodeName", spec := "fnExactCodeName", apart := false, narrowed := true }
def FnExactCodeNameUptoSaid : Prop := fnExactCodeNameUptoRow.holds Try.pinned (OpenSpec.upto fnExactCodeNameSpec)

/-- 'laws.FnExactRestAt', WHERE WHAT IT READS IS OF BULK AT MOST 1048576: true; the input reads as it did. -/
def fnExactRestAtUptoRow : OpenClaim := { program := "ytnedmhmliknfgaa", sum := "f3dd5f43ab6fc6dc3265ff86a1ddd725dbd10f252166a53d07f41c9d697ab28c", func := "loop.example/g01278/laws.FnExactRestAt", spec := "fnExactRestAt", apart := false, narrowed := true }
def FnExactRestAtUptoSaid : Prop := fnExactRestAtUptoRow.holds Try.pinned (OpenSpec.upto fnExactRestAtSpec)

/-- 'laws.FnExactClicksOf', WHERE WHAT IT READS IS OF BULK AT MOST 1048576: true; the input reads as it did. -/
def fnExactClicksOfUptoRow : OpenClaim := { program := "ytnedmhmliknfgaa", sum := "f3dd5f43ab6fc6dc3265ff86a1ddd725dbd10f252166a53d07f41c9d697ab28c", func := "loop.example/g01278/laws.FnExactClicksOf", spec := "fnExactClicksOf", apart := false, narrowed := true }
def FnExactClicksOfUptoSaid : Prop := fnExactClicksOfUptoRow.holds Try.pinned (OpenSpec.upto fnExactClicksOfSpec)

/-- 'laws.FnExactValidRatio', WHERE WHAT IT READS IS OF BULK AT MOST 1048576: true; the input reads as it did. -/
def fnExactValidRatioUptoRow : OpenClaim := { program := "ytnedmhmliknfgaa", sum := "f3dd5f43ab6fc6dc3265ff86a1ddd725dbd10f252166a53d07f41c9d697ab28c", func := "loop.example/g01278/laws.FnExactValidRatio", spec := "fnExactValidRatio", apart := false, narrowed := true }
def FnExactValidRatioUptoSaid : Prop := fnExactValidRatioUptoRow.holds Try.pinned (OpenSpec.upto fnExactValidRatioSpec)

/-- 'laws.FnExactCompareRatios', WHERE WHAT IT READS IS OF BULK AT MOST 1048576: true; the input reads as it did. -/
def fnExactCompareRatiosUptoRow : OpenClaim := { program := "ytnedmhmliknfgaa", sum := "f3dd5f43ab6fc6dc3265ff86a1ddd725dbd10f252166a53d07f41c9d697ab28c", func := "loop.example/g01278/laws.FnExactCompareRatios", spec := "fnExactCompareRatios", apart := false, narrowed := true }
def FnExactCompareRatiosUptoSaid : Prop := fnExactCompareRatiosUptoRow.holds Try.pinned (OpenSpec.upto fnExactCompareRatiosSpec)

/-- 'laws.FnExactMakeRatio', WHERE WHAT IT READS IS OF BULK AT MOST 1048576: true; the input reads as it did. -/
def fnExactMakeRatioUptoRow : OpenClaim := { program := "ytnedmhmliknfgaa", sum := "f3dd5f43ab6fc6dc3265ff86a1ddd725dbd10f252166a53d07f41c9d697ab28c", func := "loop.example/g01278/laws.FnExactMakeRatio", spec := "fnExactMakeRatio", apart := false, narrowed := true }
def FnExactMakeRatioUptoSaid : Prop := fnExactMakeRatioUptoRow.holds Try.pinned (OpenSpec.upto fnExactMakeRatioSpec)

/-- 'laws.FnExactTimesRatio', WHERE WHAT IT READS IS OF BULK AT MOST 1048576: true; the input reads as it did. -/
def fnExactTimesRatioUptoRow : OpenClaim := { program := "ytnedmhmliknfgaa", sum := "f3dd5f43ab6fc6dc3265ff86a1ddd725dbd10f252166a53d07f41c9d697ab28c", func := "loop.example/g01278/laws.FnExactTimesRatio", spec := "fnExactTimesRatio", apart := false, narrowed := true }
def FnExactTimesRatioUptoSaid : Prop := fnExactTimesRatioUptoRow.holds Try.pinned (OpenSpec.upto fnExactTimesRatioSpec)

/-- 'laws.FnExactNearerRatio', WHERE WHAT IT READS IS OF BULK AT MOST 1048576: true; the input reads as it did. -/
def fnExactNearerRatioUptoRow : OpenClaim := { program := "ytnedmhmliknfgaa", sum := "f3dd5f43ab6fc6dc3265ff86a1ddd725dbd10f252166a53d07f41c9d697ab28c", func := "loop.example/g01278/laws.FnExactNearerRatio", spec := "fnExactNearerRatio", apart := false, narrowed := true }
def FnExactNearerRatioUptoSaid : Prop := fnExactNearerRatioUptoRow.holds Try.pinned (OpenSpec.upto fnExactNearerRatioSpec)

/-- 'laws.FnExactPairFor', WHERE WHAT IT READS IS OF BULK AT MOST 1048576: true; the input reads as it did. -/
def fnExactPairForUptoRow : OpenClaim := { program := "ytnedmhmliknfgaa", sum := "f3dd5f43ab6fc6dc3265ff86a1ddd725dbd10f252166a53d07f41c9d697ab28c", func := "loop.example/g01278/laws.FnExactPairFor", spec := "fnExactPairFor", apart := false, narrowed := true }
def FnExactPairForUptoSaid : Prop := fnExactPairForUptoRow.holds Try.pinned (OpenSpec.upto fnExactPairForSpec)

/-- 'laws.FnExactNearestRatio', WHERE WHAT IT READS IS OF BULK AT MOST 1048576: true; the input reads as it did. -/
def fnExactNearestRatioUptoRow : OpenClaim := { program := "ytnedmhmliknfgaa", sum := "f3dd5f43ab6fc6dc3265ff86a1ddd725dbd10f252166a53d07f41c9d697ab28c", func := "loop.example/g01278/laws.FnExactNearestRatio", spec := "fnExactNearestRatio", apart := false, narrowed := true }
def FnExactNearestRatioUptoSaid : Prop := fnExactNearestRatioUptoRow.holds Try.pinned (OpenSpec.upto fnExactNearestRatioSpec)

end Rows
end Go.Proofs.Ytnedmhmliknfgaa
