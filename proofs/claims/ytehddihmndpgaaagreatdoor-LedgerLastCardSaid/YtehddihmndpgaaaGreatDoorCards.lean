/-
  DERIVED. GIVEN WITH THE SEED: THE CARDS: each row of YtehddihmndpgaaaGreatDoorRows.lean that lists a variable, with what it lists TIED to the program's text (the seventh form; the later family's looks); each row that meets fmt, with fmt's text TOLD by the authors' own Lean function (tested against real Go, not proved from fmt's source: count such statements apart). THE CARD IS WHAT COUNTS. Prove the row's statement (the work); the ties are given (YtehddihmndpgaaaGreatDoorTie.lean); close each card by the builder's one call (the guide's Derived/Test/ToyasCard.lean, 'card_holds'). Laid BY PROGRAM, IN A SANDBOX (cutbox-door.mjs). By AI agents, Wed Nov 11 2026. No macro, syntax, notation, axiom, sorry.
-/
import Derived.Test.YtehddihmndpgaaaGreatDoorRows
import GoSem.ClaimSeven
namespace Go.Proofs.YtehddihmndpgaaaGreatDoor
namespace Rows

/-- THE TIED CARD OF 'sizarlaw39.LedgerMerged'. -/
def ledgerMergedCard : Claim7 := { stood := { row := ledgerMergedRow, standIns := [], harness := (true, "8d402051295ed1675ee750fc32f4bdf2279a21a607d7904cb8028bdae51c2119"), looks := true }, kinds := [], alts := [], laidByText := true, laidKinds := [.handle, .data, .funcs], laidTests := true, laidLooks := .later }
def LedgerMergedCardSaid : Prop := Claim7.holds Tryz.pinned (.plain (OpenSpec.ofChange ledgerMergedSpec)) ledgerMergedCard

/-- THE TIED CARD OF 'sizarlaw39.LedgerThree'. -/
def ledgerThreeCard : Claim7 := { stood := { row := ledgerThreeRow, standIns := [], harness := (true, "8d402051295ed1675ee750fc32f4bdf2279a21a607d7904cb8028bdae51c2119"), looks := true }, kinds := [], alts := [], laidByText := true, laidKinds := [.handle, .data, .funcs], laidTests := true, laidLooks := .later }
def LedgerThreeCardSaid : Prop := Claim7.holds Tryz.pinned (.plain (OpenSpec.ofChange ledgerThreeSpec)) ledgerThreeCard

/-- THE TIED CARD OF 'sizarlaw39.LedgerTimes'. -/
def ledgerTimesCard : Claim7 := { stood := { row := ledgerTimesRow, standIns := [], harness := (true, "8d402051295ed1675ee750fc32f4bdf2279a21a607d7904cb8028bdae51c2119"), looks := true }, kinds := [], alts := [], laidByText := true, laidKinds := [.handle, .data, .funcs], laidTests := true, laidLooks := .later }
def LedgerTimesCardSaid : Prop := Claim7.holds Tryz.pinned (.plain (OpenSpec.ofChange ledgerTimesSpec)) ledgerTimesCard

/-- THE TIED CARD OF 'sizarlaw39.LedgerLast'. -/
def ledgerLastCard : Claim7 := { stood := { row := ledgerLastRow, standIns := [], harness := (true, "8d402051295ed1675ee750fc32f4bdf2279a21a607d7904cb8028bdae51c2119"), looks := true }, kinds := [], alts := [], laidByText := true, laidKinds := [.handle, .data, .funcs], laidTests := true, laidLooks := .later }
def LedgerLastCardSaid : Prop := Claim7.holds Tryz.pinned (.plain (OpenSpec.ofChange ledgerLastSpec)) ledgerLastCard

/-- THE SECOND FORM's CARD OF 'sizarlaw39.LedgerMerged'. -/
def ledgerMergedUptoCard : Claim7 := { stood := { row := ledgerMergedUptoRow, standIns := [], harness := (true, "8d402051295ed1675ee750fc32f4bdf2279a21a607d7904cb8028bdae51c2119"), looks := true }, kinds := [], alts := [], laidByText := true, laidKinds := [.handle, .data, .funcs], laidTests := true, laidLooks := .later }
def LedgerMergedUptoCardSaid : Prop := Claim7.holds Tryz.pinned (.plain (OpenSpec.upto ledgerMergedSpec)) ledgerMergedUptoCard

/-- THE SECOND FORM's CARD OF 'sizarlaw39.LedgerThree'. -/
def ledgerThreeUptoCard : Claim7 := { stood := { row := ledgerThreeUptoRow, standIns := [], harness := (true, "8d402051295ed1675ee750fc32f4bdf2279a21a607d7904cb8028bdae51c2119"), looks := true }, kinds := [], alts := [], laidByText := true, laidKinds := [.handle, .data, .funcs], laidTests := true, laidLooks := .later }
def LedgerThreeUptoCardSaid : Prop := Claim7.holds Tryz.pinned (.plain (OpenSpec.upto ledgerThreeSpec)) ledgerThreeUptoCard

/-- THE SECOND FORM's CARD OF 'sizarlaw39.LedgerTimes'. -/
def ledgerTimesUptoCard : Claim7 := { stood := { row := ledgerTimesUptoRow, standIns := [], harness := (true, "8d402051295ed1675ee750fc32f4bdf2279a21a607d7904cb8028bdae51c2119"), looks := true }, kinds := [], alts := [], laidByText := true, laidKinds := [.handle, .data, .funcs], laidTests := true, laidLooks := .later }
def LedgerTimesUptoCardSaid : Prop := Claim7.holds Tryz.pinned (.plain (OpenSpec.upto ledgerTimesSpec)) ledgerTimesUptoCard

/-- THE SECOND FORM's CARD OF 'sizarlaw39.LedgerLast'. -/
def ledgerLastUptoCard : Claim7 := { stood := { row := ledgerLastUptoRow, standIns := [], harness := (true, "8d402051295ed1675ee750fc32f4bdf2279a21a607d7904cb8028bdae51c2119"), looks := true }, kinds := [], alts := [], laidByText := true, laidKinds := [.handle, .data, .funcs], laidTests := true, laidLooks := .later }
def LedgerLastUptoCardSaid : Prop := Claim7.holds Tryz.pinned (.plain (OpenSpec.upto ledgerLastSpec)) ledgerLastUptoCard
end Rows
end Go.Proofs.YtehddihmndpgaaaGreatDoor
