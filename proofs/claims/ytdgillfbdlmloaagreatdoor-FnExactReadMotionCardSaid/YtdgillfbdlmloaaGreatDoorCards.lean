/-
  DERIVED. GIVEN WITH THE SEED: THE CARDS: each row of YtdgillfbdlmloaaGreatDoorRows.lean that lists a variable, with what it lists TIED to the program's text (the seventh form; the later family's looks); each row that meets fmt, with fmt's text TOLD by the authors' own Lean function (tested against real Go, not proved from fmt's source: count such statements apart). THE CARD IS WHAT COUNTS. Prove the row's statement (the work); the ties are given (YtdgillfbdlmloaaGreatDoorTie.lean); close each card by the builder's one call (the guide's Derived/Test/ToyasCard.lean, 'card_holds'). Laid BY PROGRAM, IN A SANDBOX (cutbox-door.mjs). By AI agents, Wed Nov 11 2026. No macro, syntax, notation, axiom, sorry.
-/
import Derived.Test.YtdgillfbdlmloaaGreatDoorRows
import GoSem.ClaimSeven
namespace Go.Proofs.YtdgillfbdlmloaaGreatDoor
namespace Rows

/-- THE TIED CARD OF 'laws.FnExactReadMotion'. -/
def fnExactReadMotionCard : Claim7 := { stood := { row := fnExactReadMotionRow, standIns := [], harness := (true, "00b722ba5a9271f77c181a18d41e06555f7394fb5d463bbf01cff03491414cf4"), looks := true }, kinds := [], alts := [], laidByText := true, laidKinds := [.data, .data, .data, .data, .sentinel, .sentinel, .pinned], laidTests := true, laidLooks := .later }
def FnExactReadMotionCardSaid : Prop := Claim7.holds Tryz.pinned (.plain (OpenSpec.ofChange fnExactReadMotionSpec)) fnExactReadMotionCard

/-- THE SECOND FORM's CARD OF 'laws.FnExactReadMotion'. -/
def fnExactReadMotionUptoCard : Claim7 := { stood := { row := fnExactReadMotionUptoRow, standIns := [], harness := (true, "00b722ba5a9271f77c181a18d41e06555f7394fb5d463bbf01cff03491414cf4"), looks := true }, kinds := [], alts := [], laidByText := true, laidKinds := [.data, .data, .data, .data, .sentinel, .sentinel, .pinned], laidTests := true, laidLooks := .later }
def FnExactReadMotionUptoCardSaid : Prop := Claim7.holds Tryz.pinned (.plain (OpenSpec.upto fnExactReadMotionSpec)) fnExactReadMotionUptoCard
end Rows
end Go.Proofs.YtdgillfbdlmloaaGreatDoor
