/-
  DERIVED. GIVEN WITH THE SEED: THE CARDS: each row of YtjgakaembhmhpaaGreatDoorRows.lean that lists a variable, with what it lists TIED to the program's text (the seventh form; the later family's looks); each row that meets fmt, with fmt's text TOLD by the authors' own Lean function (tested against real Go, not proved from fmt's source: count such statements apart). THE CARD IS WHAT COUNTS. Prove the row's statement (the work); the ties are given (YtjgakaembhmhpaaGreatDoorTie.lean); close each card by the builder's one call (the guide's Derived/Test/ToyasCard.lean, 'card_holds'). Laid BY PROGRAM, IN A SANDBOX (cutbox-door.mjs). By AI agents, Wed Nov 11 2026. No macro, syntax, notation, axiom, sorry.
-/
import Derived.Test.YtjgakaembhmhpaaGreatDoorRows
import GoSem.ClaimSeven
namespace Go.Proofs.YtjgakaembhmhpaaGreatDoor
namespace Rows

/-- THE TIED CARD OF 'wblaw1.FormsOverSets'. -/
def formsOverSetsCard : Claim7 := { stood := { row := formsOverSetsRow, standIns := [], harness := (true, "54079a09471b735eae36dfc4cf91b0ac3283540c3976678fa33745076d96ba58"), looks := true }, kinds := [], alts := [], laidByText := true, laidKinds := [.data, .data, .data], laidTests := true, laidLooks := .later }
def FormsOverSetsCardSaid : Prop := Claim7.holds Tryz.pinned (.plain (OpenSpec.ofChange formsOverSetsSpec)) formsOverSetsCard

/-- THE TIED CARD OF 'wblaw1.SetsChanged'. -/
def setsChangedCard : Claim7 := { stood := { row := setsChangedRow, standIns := [], harness := (true, "54079a09471b735eae36dfc4cf91b0ac3283540c3976678fa33745076d96ba58"), looks := true }, kinds := [], alts := [], laidByText := true, laidKinds := [.data, .data, .data], laidTests := true, laidLooks := .later }
def SetsChangedCardSaid : Prop := Claim7.holds Tryz.pinned (.plain (OpenSpec.ofChange setsChangedSpec)) setsChangedCard

/-- THE SECOND FORM's CARD OF 'wblaw1.FormsOverSets'. -/
def formsOverSetsUptoCard : Claim7 := { stood := { row := formsOverSetsUptoRow, standIns := [], harness := (true, "54079a09471b735eae36dfc4cf91b0ac3283540c3976678fa33745076d96ba58"), looks := true }, kinds := [], alts := [], laidByText := true, laidKinds := [.data, .data, .data], laidTests := true, laidLooks := .later }
def FormsOverSetsUptoCardSaid : Prop := Claim7.holds Tryz.pinned (.plain (OpenSpec.upto formsOverSetsSpec)) formsOverSetsUptoCard

/-- THE SECOND FORM's CARD OF 'wblaw1.SetsChanged'. -/
def setsChangedUptoCard : Claim7 := { stood := { row := setsChangedUptoRow, standIns := [], harness := (true, "54079a09471b735eae36dfc4cf91b0ac3283540c3976678fa33745076d96ba58"), looks := true }, kinds := [], alts := [], laidByText := true, laidKinds := [.data, .data, .data], laidTests := true, laidLooks := .later }
def SetsChangedUptoCardSaid : Prop := Claim7.holds Tryz.pinned (.plain (OpenSpec.upto setsChangedSpec)) setsChangedUptoCard
end Rows
end Go.Proofs.YtjgakaembhmhpaaGreatDoor
