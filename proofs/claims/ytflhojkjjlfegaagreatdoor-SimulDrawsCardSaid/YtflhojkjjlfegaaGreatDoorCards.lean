/-
  DERIVED. GIVEN WITH THE SEED: THE CARDS: each row of YtflhojkjjlfegaaGreatDoorRows.lean that lists a variable, with what it lists TIED to the program's text (the seventh form; the later family's looks); each row that meets fmt, with fmt's text TOLD by the authors' own Lean function (tested against real Go, not proved from fmt's source: count such statements apart). THE CARD IS WHAT COUNTS. Prove the row's statement (the work); the ties are given (YtflhojkjjlfegaaGreatDoorTie.lean); close each card by the builder's one call (the guide's Derived/Test/ToyasCard.lean, 'card_holds'). Laid BY PROGRAM, IN A SANDBOX (cutbox-door.mjs). By AI agents, Wed Nov 11 2026. No macro, syntax, notation, axiom, sorry.
-/
import Derived.Test.YtflhojkjjlfegaaGreatDoorRows
import GoSem.ClaimSeven
namespace Go.Proofs.YtflhojkjjlfegaaGreatDoor
namespace Rows

/-- THE TIED CARD OF 'foregonelaw28.SimulDraws'. -/
def simulDrawsCard : Claim7 := { stood := { row := simulDrawsRow, standIns := [], harness := (true, "3e721313c2292387f4e3cf1ecd7e80de311fb6619af09358b6d6f8746d12c426"), looks := true }, kinds := [], alts := [], laidByText := true, laidKinds := [.data, .data, .data, .sentinel, .sentinel], laidTests := true, laidLooks := .later }
def SimulDrawsCardSaid : Prop := Claim7.holds Tryz.pinned (.plain (OpenSpec.ofChange simulDrawsSpec)) simulDrawsCard

/-- THE TIED CARD OF 'foregonelaw28.SimulAlike'. -/
def simulAlikeCard : Claim7 := { stood := { row := simulAlikeRow, standIns := [], harness := (true, "3e721313c2292387f4e3cf1ecd7e80de311fb6619af09358b6d6f8746d12c426"), looks := true }, kinds := [], alts := [], laidByText := true, laidKinds := [.data, .data, .data, .sentinel, .sentinel], laidTests := true, laidLooks := .later }
def SimulAlikeCardSaid : Prop := Claim7.holds Tryz.pinned (.plain (OpenSpec.ofChange simulAlikeSpec)) simulAlikeCard

/-- THE TIED CARD OF 'foregonelaw28.SimulSteps'. -/
def simulStepsCard : Claim7 := { stood := { row := simulStepsRow, standIns := [], harness := (true, "3e721313c2292387f4e3cf1ecd7e80de311fb6619af09358b6d6f8746d12c426"), looks := true }, kinds := [], alts := [], laidByText := true, laidKinds := [.data, .data, .data, .sentinel, .sentinel], laidTests := true, laidLooks := .later }
def SimulStepsCardSaid : Prop := Claim7.holds Tryz.pinned (.plain (OpenSpec.ofChange simulStepsSpec)) simulStepsCard

/-- THE TIED CARD OF 'foregonelaw28.SimulOrders'. -/
def simulOrdersCard : Claim7 := { stood := { row := simulOrdersRow, standIns := [], harness := (true, "3e721313c2292387f4e3cf1ecd7e80de311fb6619af09358b6d6f8746d12c426"), looks := true }, kinds := [], alts := [], laidByText := true, laidKinds := [.data, .data, .data, .sentinel, .sentinel], laidTests := true, laidLooks := .later }
def SimulOrdersCardSaid : Prop := Claim7.holds Tryz.pinned (.plain (OpenSpec.ofChange simulOrdersSpec)) simulOrdersCard

/-- THE SECOND FORM's CARD OF 'foregonelaw28.SimulDraws'. -/
def simulDrawsUptoCard : Claim7 := { stood := { row := simulDrawsUptoRow, standIns := [], harness := (true, "3e721313c2292387f4e3cf1ecd7e80de311fb6619af09358b6d6f8746d12c426"), looks := true }, kinds := [], alts := [], laidByText := true, laidKinds := [.data, .data, .data, .sentinel, .sentinel], laidTests := true, laidLooks := .later }
def SimulDrawsUptoCardSaid : Prop := Claim7.holds Tryz.pinned (.plain (OpenSpec.upto simulDrawsSpec)) simulDrawsUptoCard

/-- THE SECOND FORM's CARD OF 'foregonelaw28.SimulAlike'. -/
def simulAlikeUptoCard : Claim7 := { stood := { row := simulAlikeUptoRow, standIns := [], harness := (true, "3e721313c2292387f4e3cf1ecd7e80de311fb6619af09358b6d6f8746d12c426"), looks := true }, kinds := [], alts := [], laidByText := true, laidKinds := [.data, .data, .data, .sentinel, .sentinel], laidTests := true, laidLooks := .later }
def SimulAlikeUptoCardSaid : Prop := Claim7.holds Tryz.pinned (.plain (OpenSpec.upto simulAlikeSpec)) simulAlikeUptoCard

/-- THE SECOND FORM's CARD OF 'foregonelaw28.SimulSteps'. -/
def simulStepsUptoCard : Claim7 := { stood := { row := simulStepsUptoRow, standIns := [], harness := (true, "3e721313c2292387f4e3cf1ecd7e80de311fb6619af09358b6d6f8746d12c426"), looks := true }, kinds := [], alts := [], laidByText := true, laidKinds := [.data, .data, .data, .sentinel, .sentinel], laidTests := true, laidLooks := .later }
def SimulStepsUptoCardSaid : Prop := Claim7.holds Tryz.pinned (.plain (OpenSpec.upto simulStepsSpec)) simulStepsUptoCard

/-- THE SECOND FORM's CARD OF 'foregonelaw28.SimulOrders'. -/
def simulOrdersUptoCard : Claim7 := { stood := { row := simulOrdersUptoRow, standIns := [], harness := (true, "3e721313c2292387f4e3cf1ecd7e80de311fb6619af09358b6d6f8746d12c426"), looks := true }, kinds := [], alts := [], laidByText := true, laidKinds := [.data, .data, .data, .sentinel, .sentinel], laidTests := true, laidLooks := .later }
def SimulOrdersUptoCardSaid : Prop := Claim7.holds Tryz.pinned (.plain (OpenSpec.upto simulOrdersSpec)) simulOrdersUptoCard
end Rows
end Go.Proofs.YtflhojkjjlfegaaGreatDoor
