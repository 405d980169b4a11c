/-
  DERIVED. GIVEN WITH THE SEED: THE CARDS: each row of YtgblginphicacaaDoorRows.lean that lists a variable, with what it lists TIED to the program's text (the seventh form; the later family's looks); each row that meets fmt, with fmt's text TOLD by the authors' own Lean function (tested against real Go, not proved from fmt's source: count such statements apart). THE CARD IS WHAT COUNTS. Prove the row's statement (the work); the ties are given (YtgblginphicacaaDoorTie.lean); close each card by the builder's one call (the guide's Derived/Test/ToyasCard.lean, 'card_holds'). Laid BY PROGRAM, IN A SANDBOX (cutbox-door.mjs). By AI agents, Wed Nov 11 2026. No macro, syntax, notation, axiom, sorry.
-/
import Derived.Test.YtgblginphicacaaDoorRows
import GoSem.ClaimSeven
namespace Go.Proofs.YtgblginphicacaaDoor
namespace Rows

/-- THE TIED CARD OF 'laws.FnExactWidestDistance'. -/
def fnExactWidestDistanceCard : Claim7 := { stood := { row := fnExactWidestDistanceRow, standIns := [], harness := (true, "81b921f53b23bc9264dc4685a595b298b97b38b34ccd8450147bd06292b6af67"), looks := false }, kinds := [], alts := [], laidByText := true, laidKinds := [.data, .data, .data], laidTests := true, laidLooks := .later }
def FnExactWidestDistanceCardSaid : Prop := Claim7.holds Tryd.pinned (.plain (OpenSpec.ofChange fnExactWidestDistanceSpec)) fnExactWidestDistanceCard

/-- THE TIED CARD OF 'laws.FnExactFlipDistance'. -/
def fnExactFlipDistanceCard : Claim7 := { stood := { row := fnExactFlipDistanceRow, standIns := [], harness := (true, "81b921f53b23bc9264dc4685a595b298b97b38b34ccd8450147bd06292b6af67"), looks := false }, kinds := [], alts := [], laidByText := true, laidKinds := [.data, .data, .data], laidTests := true, laidLooks := .later }
def FnExactFlipDistanceCardSaid : Prop := Claim7.holds Tryd.pinned (.plain (OpenSpec.ofChange fnExactFlipDistanceSpec)) fnExactFlipDistanceCard

/-- THE TIED CARD OF 'laws.FnExactFirstFlips'. -/
def fnExactFirstFlipsCard : Claim7 := { stood := { row := fnExactFirstFlipsRow, standIns := [], harness := (true, "81b921f53b23bc9264dc4685a595b298b97b38b34ccd8450147bd06292b6af67"), looks := false }, kinds := [], alts := [], laidByText := true, laidKinds := [.data, .data, .data], laidTests := true, laidLooks := .later }
def FnExactFirstFlipsCardSaid : Prop := Claim7.holds Tryd.pinned (.plain (OpenSpec.ofChange fnExactFirstFlipsSpec)) fnExactFirstFlipsCard

/-- THE TIED CARD OF 'laws.FnExactFarthestByFlips'. -/
def fnExactFarthestByFlipsCard : Claim7 := { stood := { row := fnExactFarthestByFlipsRow, standIns := [], harness := (true, "81b921f53b23bc9264dc4685a595b298b97b38b34ccd8450147bd06292b6af67"), looks := false }, kinds := [], alts := [], laidByText := true, laidKinds := [.data, .data, .data], laidTests := true, laidLooks := .later }
def FnExactFarthestByFlipsCardSaid : Prop := Claim7.holds Tryd.pinned (.plain (OpenSpec.ofChange fnExactFarthestByFlipsSpec)) fnExactFarthestByFlipsCard

/-- THE SECOND FORM's CARD OF 'laws.FnExactWidestDistance'. -/
def fnExactWidestDistanceUptoCard : Claim7 := { stood := { row := fnExactWidestDistanceUptoRow, standIns := [], harness := (true, "81b921f53b23bc9264dc4685a595b298b97b38b34ccd8450147bd06292b6af67"), looks := false }, kinds := [], alts := [], laidByText := true, laidKinds := [.data, .data, .data], laidTests := true, laidLooks := .later }
def FnExactWidestDistanceUptoCardSaid : Prop := Claim7.holds Tryd.pinned (.plain (OpenSpec.upto fnExactWidestDistanceSpec)) fnExactWidestDistanceUptoCard

/-- THE SECOND FORM's CARD OF 'laws.FnExactFlipDistance'. -/
def fnExactFlipDistanceUptoCard : Claim7 := { stood := { row := fnExactFlipDistanceUptoRow, standIns := [], harness := (true, "81b921f53b23bc9264dc4685a595b298b97b38b34ccd8450147bd06292b6af67"), looks := false }, kinds := [], alts := [], laidByText := true, laidKinds := [.data, .data, .data], laidTests := true, laidLooks := .later }
def FnExactFlipDistanceUptoCardSaid : Prop := Claim7.holds Tryd.pinned (.plain (OpenSpec.upto fnExactFlipDistanceSpec)) fnExactFlipDistanceUptoCard

/-- THE SECOND FORM's CARD OF 'laws.FnExactFirstFlips'. -/
def fnExactFirstFlipsUptoCard : Claim7 := { stood := { row := fnExactFirstFlipsUptoRow, standIns := [], harness := (true, "81b921f53b23bc9264dc4685a595b298b97b38b34ccd8450147bd06292b6af67"), looks := false }, kinds := [], alts := [], laidByText := true, laidKinds := [.data, .data, .data], laidTests := true, laidLooks := .later }
def FnExactFirstFlipsUptoCardSaid : Prop := Claim7.holds Tryd.pinned (.plain (OpenSpec.upto fnExactFirstFlipsSpec)) fnExactFirstFlipsUptoCard

/-- THE SECOND FORM's CARD OF 'laws.FnExactFarthestByFlips'. -/
def fnExactFarthestByFlipsUptoCard : Claim7 := { stood := { row := fnExactFarthestByFlipsUptoRow, standIns := [], harness := (true, "81b921f53b23bc9264dc4685a595b298b97b38b34ccd8450147bd06292b6af67"), looks := false }, kinds := [], alts := [], laidByText := true, laidKinds := [.data, .data, .data], laidTests := true, laidLooks := .later }
def FnExactFarthestByFlipsUptoCardSaid : Prop := Claim7.holds Tryd.pinned (.plain (OpenSpec.upto fnExactFarthestByFlipsSpec)) fnExactFarthestByFlipsUptoCard
end Rows
end Go.Proofs.YtgblginphicacaaDoor
