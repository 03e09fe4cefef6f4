/-
  No cell of these rows narrows 'for every input' (looked for: loops, veiled, ifaces, maps, wideKeys, modest, calm, conditions, laid).
  DERIVED. THE GIVEN ROWS OF THIS SEAT. 8 by the template 'for every input the law returns true; each argument reads behind the call as it read before'; 0 by the template 'total and deterministic' (their statements: YtmjfpigkobeahaaTotals.lean).
  GIVEN WITH THE SEED: the statements are not yours to turn. If you find one false, say at which input.
  Laid BY PROGRAM, IN A SANDBOX (cutbox-rows.mjs): the forced cells as the released guide's own fill.sh prints them over the translation f75dc84a10744820… (all of the seat's roots in one cut). By AI agents, Wed Nov 11 2026. No macro, syntax, notation, axiom, sorry.
-/
import Derived.Test.YtmjfpigkobeahaaChecked
import GoSem.Claim
import GoSem.ClaimJoined
import GoSem.ClaimMapViews
import Derived.JoinedTies
import Derived.KernelRfl
namespace Go.Proofs.Ytmjfpigkobeahaa
/- THE CELL 'sum', in the pinned program and in every row, IS THE sha256 OF THE DUMP (.gsa) THAT YtmjfpigkobeahaaProg.lean LOADS. Nothing in Lean hashes anything: it is a label: what it is worth is what the hold of that sum in a sandbox is worth. -/
noncomputable def Try.pinned : Pinned := { name := "ytmjfpigkobeahaa", sum := "f75dc84a107448207e7539601a57bc76636330bde00ba25694d0dcd64797bb62", checked := Try.checked }
namespace Rows
def none {H : Type} : Left H := { results := [], args := [] }

/-- 'laws.FnExactTermsOf': WHATEVER THE INPUT: true; the input reads as it did. -/
def fnExactTermsOfSpec : ChangeSpec := { name := "fnExactTermsOf", fn := fun _ => fun
  | [d] => { results := [.lit (.bool true)], args := [d] }
  | _ => none }
def fnExactTermsOfRow : OpenClaim := { program := "ytmjfpigkobeahaa", sum := "f75dc84a107448207e7539601a57bc76636330bde00ba25694d0dcd64797bb62", func := "loop.example/g01278/laws.FnExactTermsOf", spec := "fnExactTermsOf", apart := false }
def FnExactTermsOfSaid : Prop := fnExactTermsOfRow.holds Try.pinned (OpenSpec.ofChange fnExactTermsOfSpec)

/-- ITS FALSE NEIGHBOUR: 'it returns false'. Refute it at one input. -/
def fnExactTermsOfWrong : ChangeSpec := { name := "fnExactTermsOf", fn := fun _ => fun
  | [d] => { results := [.lit (.bool false)], args := [d] }
  | _ => none }
def FnExactTermsOfWrongFalsely : Prop := fnExactTermsOfRow.holds Try.pinned (OpenSpec.ofChange fnExactTermsOfWrong)

/-- 'laws.FnExactFromTerms': WHATEVER THE INPUT: true; the input reads as it did. -/
def fnExactFromTermsSpec : ChangeSpec := { name := "fnExactFromTerms", fn := fun _ => fun
  | [d] => { results := [.lit (.bool true)], args := [d] }
  | _ => none }
def fnExactFromTermsRow : OpenClaim := { program := "ytmjfpigkobeahaa", sum := "f75dc84a107448207e7539601a57bc76636330bde00ba25694d0dcd64797bb62", func := "loop.example/g01278/laws.FnExactFromTerms", spec := "fnExactFromTerms", apart := false }
def FnExactFromTermsSaid : Prop := fnExactFromTermsRow.holds Try.pinned (OpenSpec.ofChange fnExactFromTermsSpec)

/-- ITS FALSE NEIGHBOUR: 'it returns false'. Refute it at one input. -/
def fnExactFromTermsWrong : ChangeSpec := { name := "fnExactFromTerms", fn := fun _ => fun
  | [d] => { results := [.lit (.bool false)], args := [d] }
  | _ => none }
def FnExactFromTermsWrongFalsely : Prop := fnExactFromTermsRow.holds Try.pinned (OpenSpec.ofChange fnExactFromTermsWrong)

/-- 'laws.FnExactConvergentsOf': WHATEVER THE INPUT: true; the input reads as it did. -/
def fnExactConvergentsOfSpec : ChangeSpec := { name := "fnExactConvergentsOf", fn := fun _ => fun
  | [d] => { results := [.lit (.bool true)], args := [d] }
  | _ => none }
def fnExactConvergentsOfRow : OpenClaim := { program := "ytmjfpigkobeahaa", sum := "f75dc84a107448207e7539601a57bc76636330bde00ba25694d0dcd64797bb62", func := "loop.example/g01278/laws.FnExactConvergentsOf", spec := "fnExactConvergentsOf", unfollowed := true, recurses := true, apart := false }
def FnExactConvergentsOfSaid : Prop := fnExactConvergentsOfRow.holds Try.pinned (OpenSpec.ofChange fnExactConvergentsOfSpec)

/-- ITS FALSE NEIGHBOUR: 'it returns false'. Refute it at one input. -/
def fnExactConvergentsOfWrong : ChangeSpec := { name := "fnExactConvergentsOf", fn := fun _ => fun
  | [d] => { results := [.lit (.bool false)], args := [d] }
  | _ => none }
def FnExactConvergentsOfWrongFalsely : Prop := fnExactConvergentsOfRow.holds Try.pinned (OpenSpec.ofChange fnExactConvergentsOfWrong)

/-- 'laws.FnExactNearestPair': WHATEVER THE INPUT: true; the input reads as it did. -/
def fnExactNearestPairSpec : ChangeSpec := { name := "fnExactNearestPair", fn := fun _ => fun
  | [d1, d2] => { results := [.lit (.bool true)], args := [d1, d2] }
  | _ => none }
def fnExactNearestPairRow : OpenClaim := { program := "ytmjfpigkobeahaa", sum := "f75dc84a107448207e7539601a57bc76636330bde00ba25694d0dcd64797bb62", func := "loop.example/g01278/laws.FnExactNearestPair", spec := "fnExactNearestPair", apart := false }
def FnExactNearestPairSaid : Prop := fnExactNearestPairRow.holds Try.pinned (OpenSpec.ofChange fnExactNearestPairSpec)

/-- ITS FALSE NEIGHBOUR: 'it returns false'. Refute it at one input. -/
def fnExactNearestPairWrong : ChangeSpec := { name := "fnExactNearestPair", fn := fun _ => fun
  | [d1, d2] => { results := [.lit (.bool false)], args := [d1, d2] }
  | _ => none }
def FnExactNearestPairWrongFalsely : Prop := fnExactNearestPairRow.holds Try.pinned (OpenSpec.ofChange fnExactNearestPairWrong)

/-- 'laws.FnExactTrainFor': WHATEVER THE INPUT: true; the input reads as it did. -/
def fnExactTrainForSpec : ChangeSpec := { name := "fnExactTrainFor", fn := fun _ => fun
  | [d] => { results := [.lit (.bool true)], args := [d] }
  | _ => none }
def fnExactTrainForRow : OpenClaim := { program := "ytmjfpigkobeahaa", sum := "f75dc84a107448207e7539601a57bc76636330bde00ba25694d0dcd64797bb62", func := "loop.example/g01278/laws.FnExactTrainFor", spec := "fnExactTrainFor", apart := false }
def FnExactTrainForSaid : Prop := fnExactTrainForRow.holds Try.pinned (OpenSpec.ofChange fnExactTrainForSpec)

/-- ITS FALSE NEIGHBOUR: 'it returns false'. Refute it at one input. -/
def fnExactTrainForWrong : ChangeSpec := { name := "fnExactTrainFor", fn := fun _ => fun
  | [d] => { results := [.lit (.bool false)], args := [d] }
  | _ => none }
def FnExactTrainForWrongFalsely : Prop := fnExactTrainForRow.holds Try.pinned (OpenSpec.ofChange fnExactTrainForWrong)

/-- 'laws.FnExactBackAndForth': WHATEVER THE INPUT: true; the input reads as it did. -/
def fnExactBackAndForthSpec : ChangeSpec := { name := "fnExactBackAndForth", fn := fun _ => fun
  | [d1, d2, d3] => { results := [.lit (.bool true)], args := [d1, d2, d3] }
  | _ => none }
def fnExactBackAndForthRow : OpenClaim := { program := "ytmjfpigkobeahaa", sum := "f75dc84a107448207e7539601a57bc76636330bde00ba25694d0dcd64797bb62", func := "loop.example/g01278/laws.FnExactBackAndForth", spec := "fnExactBackAndForth", unfollowed := true, recurses := true, apart := false }
def FnExactBackAndForthSaid : Prop := fnExactBackAndForthRow.holds Try.pinned (OpenSpec.ofChange fnExactBackAndForthSpec)

/-- ITS FALSE NEIGHBOUR: 'it returns false'. Refute it at one input. -/
def fnExactBackAndForthWrong : ChangeSpec := { name := "fnExactBackAndForth", fn := fun _ => fun
  | [d1, d2, d3] => { results := [.lit (.bool false)], args := [d1, d2, d3] }
  | _ => none }
def FnExactBackAndForthWrongFalsely : Prop := fnExactBackAndForthRow.holds Try.pinned (OpenSpec.ofChange fnExactBackAndForthWrong)

/-- 'laws.FnExactSameLog': WHATEVER THE INPUT: true; the input reads as it did. -/
def fnExactSameLogSpec : ChangeSpec := { name := "fnExactSameLog", fn := fun _ => fun
  | [d1, d2] => { results := [.lit (.bool true)], args := [d1, d2] }
  | _ => none }
def fnExactSameLogRow : OpenClaim := { program := "ytmjfpigkobeahaa", sum := "f75dc84a107448207e7539601a57bc76636330bde00ba25694d0dcd64797bb62", func := "loop.example/g01278/laws.FnExactSameLog", spec := "fnExactSameLog", apart := false }
def FnExactSameLogSaid : Prop := fnExactSameLogRow.holds Try.pinned (OpenSpec.ofChange fnExactSameLogSpec)

/-- ITS FALSE NEIGHBOUR: 'it returns false'. Refute it at one input. -/
def fnExactSameLogWrong : ChangeSpec := { name := "fnExactSameLog", fn := fun _ => fun
  | [d1, d2] => { results := [.lit (.bool false)], args := [d1, d2] }
  | _ => none }
def FnExactSameLogWrongFalsely : Prop := fnExactSameLogRow.holds Try.pinned (OpenSpec.ofChange fnExactSameLogWrong)

/-- 'laws.FnExactSameStory': WHATEVER THE INPUT: true; the input reads as it did. -/
def fnExactSameStorySpec : ChangeSpec := { name := "fnExactSameStory", fn := fun _ => fun
  | [d1, d2] => { results := [.lit (.bool true)], args := [d1, d2] }
  | _ => none }
def fnExactSameStoryRow : OpenClaim := { program := "ytmjfpigkobeahaa", sum := "f75dc84a107448207e7539601a57bc76636330bde00ba25694d0dcd64797bb62", func := "loop.example/g01278/laws.FnExactSameStory", spec := "fnExactSameStory", apart := false }
def FnExactSameStorySaid : Prop := fnExactSameStoryRow.holds Try.pinned (OpenSpec.ofChange fnExactSameStorySpec)

/-- ITS FALSE NEIGHBOUR: 'it returns false'. Refute it at one input. -/
def fnExactSameStoryWrong : ChangeSpec := { name := "fnExactSameStory", fn := fun _ => fun
  | [d1, d2] => { results := [.lit (.bool false)], args := [d1, d2] }
  | _ => none }
def FnExactSameStoryWrongFalsely : Prop := fnExactSameStoryRow.holds Try.pinned (OpenSpec.ofChange fnExactSameStoryWrong)

/- THE SECOND FORM. 'bulk': how many values and letters a reading holds, each counted each time it is reached (what is shared counts as often as it is met; a slice's spare places count too). A statement '..UptoSaid' is the law's where the arguments, and the package variables that the reading takes, are together of bulk at most 1048576: NARROWER than '..Said'. Prove '..Said' where nothing that the law and all that it calls make is longer than what came in: it says more and counts as full. Else prove '..UptoSaid'. A law counts once. -/
mutual
def uptoBulk {H : Type} : DataW H → Nat
  | .lit (.string bytes) => bytes.length + 1
  | .lit _ => 1
  | .nil => 1
  | .ptr d => uptoBulk d + 1
  | .slice elems spare => uptoBulkAll elems + uptoBulkAll spare + 1
  | .agg parts => uptoBulkAll parts + 1
  | .iface _ d => uptoBulk d + 1
  | .map entries => uptoBulkEntries entries + 1
  | .held _ => 1
def uptoBulkAll {H : Type} : List (DataW H) → Nat
  | [] => 0
  | d :: r => uptoBulk d + uptoBulkAll r
def uptoBulkEntries {H : Type} : List (Lit × DataW H) → Nat
  | [] => 0
  | x :: r => uptoBulkEntry x + uptoBulkEntries r
def uptoBulkEntry {H : Type} : Lit × DataW H → Nat
  | (.string bytes, d) => bytes.length + uptoBulk d + 1
  | (_, d) => uptoBulk d + 1
 end
def uptoSmall : (H : Type) → List (DataW H) → Bool := fun _ ds => decide (uptoBulkAll ds ≤ 1048576)
def OpenSpec.upto (s : _root_.Go.ChangeSpec) : _root_.Go.OpenSpec := { _root_.Go.OpenSpec.ofChange s with cond := some uptoSmall }

/-- 'laws.FnExactTermsOf', WHERE WHAT IT READS IS OF BULK AT MOST 1048576: true; the input reads as it did. -/
def fnExactTermsOfUptoRow : OpenClaim := { program := "ytmjfpigkobeahaa", sum := "f75dc84a107448207e7539601a57bc76636330bde00ba25694d0dcd64797bb62", func := "loop.example/g01278/laws.FnExactTermsOf", spec := "fnExactTermsOf", apart := false, narrowed := true }
def FnExactTermsOfUptoSaid : Prop := fnExactTermsOfUptoRow.holds Try.pinned (OpenSpec.upto fnExactTermsOfSpec)

/-- 'laws.FnExactFromTerms', WHERE WHAT IT READS IS OF BULK AT MOST 1048576: true; the input reads as it did. -/
def fnExactFromTermsUptoRow : OpenClaim := { program := "ytmjfpigkobeahaa", sum := "f75dc84a107448207e7539601a57bc76636330bde00ba25694d0dcd64797bb62", func := "loop.example/g01278/laws.FnExactFromTerms", spec := "fnExactFromTerms", apart := false, narrowed := true }
def FnExactFromTermsUptoSaid : Prop := fnExactFromTermsUptoRow.holds Try.pinned (OpenSpec.upto fnExactFromTermsSpec)

/-- 'laws.FnExactConvergentsOf', WHERE WHAT IT READS IS OF BULK AT MOST 1048576: true; the input reads as it did. -/
def fnExactConvergentsOfUptoRow : OpenClaim := { program := "ytmjfpigkobeahaa", sum := "f75dc84a107448207e7539601a57bc76636330bde00ba25694d0dcd64797bb62", func := "loop.example/g01278/laws.FnExactConvergentsOf", spec := "fnExactConvergentsOf", unfollowed := true, recurses := true, apart := false, narrowed := true }
def FnExactConvergentsOfUptoSaid : Prop := fnExactConvergentsOfUptoRow.holds Try.pinned (OpenSpec.upto fnExactConvergentsOfSpec)

/-- 'laws.FnExactNearestPair', WHERE WHAT IT READS IS OF BULK AT MOST 1048576: true; the input reads as it did. -/
def fnExactNearestPairUptoRow : OpenClaim := { program := "ytmjfpigkobeahaa", sum := "f75dc84a107448207e7539601a57bc76636330bde00ba25694d0dcd64797bb62", func := "loop.example/g01278/laws.FnExactNearestPair", spec := "fnExactNearestPair", apart := false, narrowed := true }
def FnExactNearestPairUptoSaid : Prop := fnExactNearestPairUptoRow.holds Try.pinned (OpenSpec.upto fnExactNearestPairSpec)

/-- 'laws.FnExactTrainFor', WHERE WHAT IT READS IS OF BULK AT MOST 1048576: true; the input reads as it did. -/
def fnExactTrainForUptoRow : OpenClaim := { program := "ytmjfpigkobeahaa", sum := "f75dc84a107448207e7539601a57bc76636330bde00ba25694d0dcd64797bb62", func := "loop.example/g01278/laws.FnExactTrainFor", spec := "fnExactTrainFor", apart := false, narrowed := true }
def FnExactTrainForUptoSaid : Prop := fnExactTrainForUptoRow.holds Try.pinned (OpenSpec.upto fnExactTrainForSpec)

/-- 'laws.FnExactBackAndForth', WHERE WHAT IT READS IS OF BULK AT MOST 1048576: true; the input reads as it did. -/
def fnExactBackAndForthUptoRow : OpenClaim := { program := "ytmjfpigkobeahaa", sum := "f75dc84a107448207e7539601a57bc76636330bde00ba25694d0dcd64797bb62", func := "loop.example/g01278/laws.FnExactBackAndForth", spec := "fnExactBackAndForth", unfollowed := true, recurses := true, apart := false, narrowed := true }
def FnExactBackAndForthUptoSaid : Prop := fnExactBackAndForthUptoRow.holds Try.pinned (OpenSpec.upto fnExactBackAndForthSpec)

/-- 'laws.FnExactSameLog', WHERE WHAT IT READS IS OF BULK AT MOST 1048576: true; the input reads as it did. -/
def fnExactSameLogUptoRow : OpenClaim := { program := "ytmjfpigkobeahaa", sum := "f75dc84a107448207e7539601a57bc76636330bde00ba25694d0dcd64797bb62", func := "loop.example/g01278/laws.FnExactSameLog", spec := "fnExactSameLog", apart := false, narrowed := true }
def FnExactSameLogUptoSaid : Prop := fnExactSameLogUptoRow.holds Try.pinned (OpenSpec.upto fnExactSameLogSpec)

/-- 'laws.FnExactSameStory', WHERE WHAT IT READS IS OF BULK AT MOST 1048576: true; the input reads as it did. -/
def fnExactSameStoryUptoRow : OpenClaim := { program := "ytmjfpigkobeahaa", sum := "f75dc84a107448207e7539601a57bc76636330bde00ba25694d0dcd64797bb62", func := "loop.example/g01278/laws.FnExactSameStory", spec := "fnExactSameStory", apart := false, narrowed := true }
def FnExactSameStoryUptoSaid : Prop := fnExactSameStoryUptoRow.holds Try.pinned (OpenSpec.upto fnExactSameStorySpec)

end Rows
end Go.Proofs.Ytmjfpigkobeahaa
