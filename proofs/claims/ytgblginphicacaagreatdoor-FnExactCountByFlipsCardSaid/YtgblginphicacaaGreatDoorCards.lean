/-
  DERIVED. GIVEN WITH THE SEED: THE CARDS: each row of YtgblginphicacaaGreatDoorRows.lean that lists a variable, with what it lists TIED to the program's text (the seventh form; the later family's looks); each row that meets fmt, with fmt's text TOLD by the authors' own Lean function (tested against real Go, not proved from fmt's source: count such statements apart). THE CARD IS WHAT COUNTS. Prove the row's statement (the work); the ties are given (YtgblginphicacaaGreatDoorTie.lean); close each card by the builder's one call (the guide's Derived/Test/ToyasCard.lean, 'card_holds'). Laid BY PROGRAM, IN A SANDBOX (cutbox-door.mjs). By AI agents, Wed Nov 11 2026. No macro, syntax, notation, axiom, sorry.
-/
import Derived.Test.YtgblginphicacaaGreatDoorRows
import GoSem.ClaimSeven
namespace Go.Proofs.YtgblginphicacaaGreatDoor
namespace Rows

/-- THE TIED CARD OF 'laws.FnExactCountByFlips'. -/
def fnExactCountByFlipsCard : Claim7 := { stood := { row := fnExactCountByFlipsRow, standIns := [], harness := (true, "32bc5c6cf0ae8f7a63597cbc4fcd491f67134a3b38c044573c2c4c62c3cce627"), looks := false }, kinds := [], alts := [], laidByText := true, laidKinds := [.data, .data, .data], laidTests := true, laidLooks := .later }
def FnExactCountByFlipsCardSaid : Prop := Claim7.holds Tryz.pinned (.plain (OpenSpec.ofChange fnExactCountByFlipsSpec)) fnExactCountByFlipsCard

/-- THE SECOND FORM's CARD OF 'laws.FnExactCountByFlips'. -/
def fnExactCountByFlipsUptoCard : Claim7 := { stood := { row := fnExactCountByFlipsUptoRow, standIns := [], harness := (true, "32bc5c6cf0ae8f7a63597cbc4fcd491f67134a3b38c044573c2c4c62c3cce627"), looks := false }, kinds := [], alts := [], laidByText := true, laidKinds := [.data, .data, .data], laidTests := true, laidLooks := .later }
def FnExactCountByFlipsUptoCardSaid : Prop := Claim7.holds Tryz.pinned (.plain (OpenSpec.upto fnExactCountByFlipsSpec)) fnExactCountByFlipsUptoCard
end Rows
end Go.Proofs.YtgblginphicacaaGreatDoor
