/-
  DERIVED. GIVEN WITH THE SEED: THE CARDS: each row of YtdgillfbdlmloaaDoorRows.lean that lists a variable, with what it lists TIED to the program's text (the seventh form; the later family's looks); each row that meets fmt, with fmt's text TOLD by the authors' own Lean function (tested against real Go, not proved from fmt's source: count such statements apart). THE CARD IS WHAT COUNTS. Prove the row's statement (the work); the ties are given (YtdgillfbdlmloaaDoorTie.lean); close each card by the builder's one call (the guide's Derived/Test/ToyasCard.lean, 'card_holds'). Laid BY PROGRAM, IN A SANDBOX (cutbox-door.mjs). By AI agents, Wed Nov 11 2026. No macro, syntax, notation, axiom, sorry.
-/
import Derived.Test.YtdgillfbdlmloaaDoorRows
import GoSem.ClaimSeven
namespace Go.Proofs.YtdgillfbdlmloaaDoor
namespace Rows

/-- THE TIED CARD OF 'laws.FnExactTrainText'. -/
def fnExactTrainTextCard : Claim7 := { stood := { row := fnExactTrainTextRow, standIns := [], harness := (true, "0b4922077aff8dab679928eaa2e88f2b75fe0523b4d93beaa9f977a5bc71b7e1"), looks := true }, kinds := [], alts := [], laidByText := true, laidKinds := [.data, .data, .data], laidTests := true, laidLooks := .later }
def FnExactTrainTextCardSaid : Prop := Claim7.holds Tryd.pinned (.plain (OpenSpec.ofChange fnExactTrainTextSpec)) fnExactTrainTextCard

/-- THE TIED CARD OF 'laws.FnExactStackText'. -/
def fnExactStackTextCard : Claim7 := { stood := { row := fnExactStackTextRow, standIns := [], harness := (true, "0b4922077aff8dab679928eaa2e88f2b75fe0523b4d93beaa9f977a5bc71b7e1"), looks := true }, kinds := [], alts := [], laidByText := true, laidKinds := [.data, .data, .data], laidTests := true, laidLooks := .later }
def FnExactStackTextCardSaid : Prop := Claim7.holds Tryd.pinned (.plain (OpenSpec.ofChange fnExactStackTextSpec)) fnExactStackTextCard

/-- THE TIED CARD OF 'laws.FnExactMotionText'. -/
def fnExactMotionTextCard : Claim7 := { stood := { row := fnExactMotionTextRow, standIns := [], harness := (true, "0b4922077aff8dab679928eaa2e88f2b75fe0523b4d93beaa9f977a5bc71b7e1"), looks := true }, kinds := [], alts := [], laidByText := true, laidKinds := [.data, .data, .data], laidTests := true, laidLooks := .later }
def FnExactMotionTextCardSaid : Prop := Claim7.holds Tryd.pinned (.plain (OpenSpec.ofChange fnExactMotionTextSpec)) fnExactMotionTextCard

/-- THE TIED CARD OF 'laws.FnExactReadStack'. -/
def fnExactReadStackCard : Claim7 := { stood := { row := fnExactReadStackRow, standIns := [], harness := (true, "0b4922077aff8dab679928eaa2e88f2b75fe0523b4d93beaa9f977a5bc71b7e1"), looks := true }, kinds := [], alts := [], laidByText := true, laidKinds := [.data, .data, .data, .data, .sentinel, .sentinel, .pinned], laidTests := true, laidLooks := .later }
def FnExactReadStackCardSaid : Prop := Claim7.holds Tryd.pinned (.plain (OpenSpec.ofChange fnExactReadStackSpec)) fnExactReadStackCard

/-- THE TIED CARD OF 'laws.FnExactReadTrain'. -/
def fnExactReadTrainCard : Claim7 := { stood := { row := fnExactReadTrainRow, standIns := [], harness := (true, "0b4922077aff8dab679928eaa2e88f2b75fe0523b4d93beaa9f977a5bc71b7e1"), looks := true }, kinds := [], alts := [], laidByText := true, laidKinds := [.data, .data, .data, .data, .sentinel, .sentinel, .pinned], laidTests := true, laidLooks := .later }
def FnExactReadTrainCardSaid : Prop := Claim7.holds Tryd.pinned (.plain (OpenSpec.ofChange fnExactReadTrainSpec)) fnExactReadTrainCard

/-- THE SECOND FORM's CARD OF 'laws.FnExactTrainText'. -/
def fnExactTrainTextUptoCard : Claim7 := { stood := { row := fnExactTrainTextUptoRow, standIns := [], harness := (true, "0b4922077aff8dab679928eaa2e88f2b75fe0523b4d93beaa9f977a5bc71b7e1"), looks := true }, kinds := [], alts := [], laidByText := true, laidKinds := [.data, .data, .data], laidTests := true, laidLooks := .later }
def FnExactTrainTextUptoCardSaid : Prop := Claim7.holds Tryd.pinned (.plain (OpenSpec.upto fnExactTrainTextSpec)) fnExactTrainTextUptoCard

/-- THE SECOND FORM's CARD OF 'laws.FnExactStackText'. -/
def fnExactStackTextUptoCard : Claim7 := { stood := { row := fnExactStackTextUptoRow, standIns := [], harness := (true, "0b4922077aff8dab679928eaa2e88f2b75fe0523b4d93beaa9f977a5bc71b7e1"), looks := true }, kinds := [], alts := [], laidByText := true, laidKinds := [.data, .data, .data], laidTests := true, laidLooks := .later }
def FnExactStackTextUptoCardSaid : Prop := Claim7.holds Tryd.pinned (.plain (OpenSpec.upto fnExactStackTextSpec)) fnExactStackTextUptoCard

/-- THE SECOND FORM's CARD OF 'laws.FnExactMotionText'. -/
def fnExactMotionTextUptoCard : Claim7 := { stood := { row := fnExactMotionTextUptoRow, standIns := [], harness := (true, "0b4922077aff8dab679928eaa2e88f2b75fe0523b4d93beaa9f977a5bc71b7e1"), looks := true }, kinds := [], alts := [], laidByText := true, laidKinds := [.data, .data, .data], laidTests := true, laidLooks := .later }
def FnExactMotionTextUptoCardSaid : Prop := Claim7.holds Tryd.pinned (.plain (OpenSpec.upto fnExactMotionTextSpec)) fnExactMotionTextUptoCard

/-- THE SECOND FORM's CARD OF 'laws.FnExactReadStack'. -/
def fnExactReadStackUptoCard : Claim7 := { stood := { row := fnExactReadStackUptoRow, standIns := [], harness := (true, "0b4922077aff8dab679928eaa2e88f2b75fe0523b4d93beaa9f977a5bc71b7e1"), looks := true }, kinds := [], alts := [], laidByText := true, laidKinds := [.data, .data, .data, .data, .sentinel, .sentinel, .pinned], laidTests := true, laidLooks := .later }
def FnExactReadStackUptoCardSaid : Prop := Claim7.holds Tryd.pinned (.plain (OpenSpec.upto fnExactReadStackSpec)) fnExactReadStackUptoCard

/-- THE SECOND FORM's CARD OF 'laws.FnExactReadTrain'. -/
def fnExactReadTrainUptoCard : Claim7 := { stood := { row := fnExactReadTrainUptoRow, standIns := [], harness := (true, "0b4922077aff8dab679928eaa2e88f2b75fe0523b4d93beaa9f977a5bc71b7e1"), looks := true }, kinds := [], alts := [], laidByText := true, laidKinds := [.data, .data, .data, .data, .sentinel, .sentinel, .pinned], laidTests := true, laidLooks := .later }
def FnExactReadTrainUptoCardSaid : Prop := Claim7.holds Tryd.pinned (.plain (OpenSpec.upto fnExactReadTrainSpec)) fnExactReadTrainUptoCard
end Rows
end Go.Proofs.YtdgillfbdlmloaaDoor
