/-
  DERIVED. GIVEN WITH THE SEED: THE CARDS: each row of YtgdbpnpolelfoaaGreatDoorRows.lean that lists a variable, with what it lists TIED to the program's text (the seventh form; the later family's looks); each row that meets fmt, with fmt's text TOLD by the authors' own Lean function (tested against real Go, not proved from fmt's source: count such statements apart). THE CARD IS WHAT COUNTS. Prove the row's statement (the work); the ties are given (YtgdbpnpolelfoaaGreatDoorTie.lean); close each card by the builder's one call (the guide's Derived/Test/ToyasCard.lean, 'card_holds'). Laid BY PROGRAM, IN A SANDBOX (cutbox-door.mjs). By AI agents, Wed Nov 11 2026. No macro, syntax, notation, axiom, sorry.
-/
import Derived.Test.YtgdbpnpolelfoaaGreatDoorRows
import GoSem.ClaimSeven
namespace Go.Proofs.YtgdbpnpolelfoaaGreatDoor
namespace Rows

/-- THE TIED CARD OF 'foregonelaw23.SearchGraphs'. -/
def searchGraphsCard : Claim7 := { stood := { row := searchGraphsRow, standIns := [], harness := (true, "92bba7c488e2411134a3125597f08496e1e45c4564c517c72b34783ef4957182"), looks := true }, kinds := [], alts := [], laidByText := true, laidKinds := [.data, .data, .data, .sentinel, .sentinel, .sentinel], laidTests := true, laidLooks := .later }
def SearchGraphsCardSaid : Prop := Claim7.holds Tryz.pinned (.plain (OpenSpec.ofChange searchGraphsSpec)) searchGraphsCard

/-- THE TIED CARD OF 'foregonelaw23.SearchReach'. -/
def searchReachCard : Claim7 := { stood := { row := searchReachRow, standIns := [], harness := (true, "92bba7c488e2411134a3125597f08496e1e45c4564c517c72b34783ef4957182"), looks := true }, kinds := [], alts := [], laidByText := true, laidKinds := [.data, .data, .data, .sentinel, .sentinel, .sentinel], laidTests := true, laidLooks := .later }
def SearchReachCardSaid : Prop := Claim7.holds Tryz.pinned (.plain (OpenSpec.ofChange searchReachSpec)) searchReachCard

/-- THE TIED CARD OF 'foregonelaw23.SearchLevels'. -/
def searchLevelsCard : Claim7 := { stood := { row := searchLevelsRow, standIns := [], harness := (true, "92bba7c488e2411134a3125597f08496e1e45c4564c517c72b34783ef4957182"), looks := true }, kinds := [], alts := [], laidByText := true, laidKinds := [.data, .data, .data, .sentinel, .sentinel, .sentinel], laidTests := true, laidLooks := .later }
def SearchLevelsCardSaid : Prop := Claim7.holds Tryz.pinned (.plain (OpenSpec.ofChange searchLevelsSpec)) searchLevelsCard

/-- THE SECOND FORM's CARD OF 'foregonelaw23.SearchGraphs'. -/
def searchGraphsUptoCard : Claim7 := { stood := { row := searchGraphsUptoRow, standIns := [], harness := (true, "92bba7c488e2411134a3125597f08496e1e45c4564c517c72b34783ef4957182"), looks := true }, kinds := [], alts := [], laidByText := true, laidKinds := [.data, .data, .data, .sentinel, .sentinel, .sentinel], laidTests := true, laidLooks := .later }
def SearchGraphsUptoCardSaid : Prop := Claim7.holds Tryz.pinned (.plain (OpenSpec.upto searchGraphsSpec)) searchGraphsUptoCard

/-- THE SECOND FORM's CARD OF 'foregonelaw23.SearchReach'. -/
def searchReachUptoCard : Claim7 := { stood := { row := searchReachUptoRow, standIns := [], harness := (true, "92bba7c488e2411134a3125597f08496e1e45c4564c517c72b34783ef4957182"), looks := true }, kinds := [], alts := [], laidByText := true, laidKinds := [.data, .data, .data, .sentinel, .sentinel, .sentinel], laidTests := true, laidLooks := .later }
def SearchReachUptoCardSaid : Prop := Claim7.holds Tryz.pinned (.plain (OpenSpec.upto searchReachSpec)) searchReachUptoCard

/-- THE SECOND FORM's CARD OF 'foregonelaw23.SearchLevels'. -/
def searchLevelsUptoCard : Claim7 := { stood := { row := searchLevelsUptoRow, standIns := [], harness := (true, "92bba7c488e2411134a3125597f08496e1e45c4564c517c72b34783ef4957182"), looks := true }, kinds := [], alts := [], laidByText := true, laidKinds := [.data, .data, .data, .sentinel, .sentinel, .sentinel], laidTests := true, laidLooks := .later }
def SearchLevelsUptoCardSaid : Prop := Claim7.holds Tryz.pinned (.plain (OpenSpec.upto searchLevelsSpec)) searchLevelsUptoCard
end Rows
end Go.Proofs.YtgdbpnpolelfoaaGreatDoor
