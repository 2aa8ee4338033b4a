/-
  DERIVED. GIVEN WITH THE SEED: THE CARDS: each row of YtoehnfohceihbaaGreatDoorRows.lean that lists a variable, with what it lists TIED to the program's text (the seventh form; the later family's looks); each row that meets fmt, with fmt's text TOLD by the authors' own Lean function (tested against real Go, not proved from fmt's source: count such statements apart). THE CARD IS WHAT COUNTS. Prove the row's statement (the work); the ties are given (YtoehnfohceihbaaGreatDoorTie.lean); close each card by the builder's one call (the guide's Derived/Test/ToyasCard.lean, 'card_holds'). Laid BY PROGRAM, IN A SANDBOX (cutbox-door.mjs). By AI agents, Wed Nov 11 2026. No macro, syntax, notation, axiom, sorry.
-/
import Derived.Test.YtoehnfohceihbaaGreatDoorRows
import GoSem.ClaimSeven
namespace Go.Proofs.YtoehnfohceihbaaGreatDoor
namespace Rows

/-- THE TIED CARD OF 'dispatchlaw22.FedGrants'. -/
def fedGrantsCard : Claim7 := { stood := { row := fedGrantsRow, standIns := [], harness := (true, "d7d8aa4e8181ecaa90f2f74e16ca0474304d729393d64820b51f7668c71abf13"), looks := true }, kinds := [], alts := [], laidByText := true, laidKinds := [.data, .data, .data, .data, .sentinel, .sentinel, .pinned], laidTests := true, laidLooks := .later }
def FedGrantsCardSaid : Prop := Claim7.holds Tryz.pinned (.plain (OpenSpec.ofChange fedGrantsSpec)) fedGrantsCard

/-- THE TIED CARD OF 'dispatchlaw22.FedRacks'. -/
def fedRacksCard : Claim7 := { stood := { row := fedRacksRow, standIns := [], harness := (true, "d7d8aa4e8181ecaa90f2f74e16ca0474304d729393d64820b51f7668c71abf13"), looks := true }, kinds := [], alts := [], laidByText := true, laidKinds := [.data, .data, .data, .data, .sentinel, .sentinel, .pinned], laidTests := true, laidLooks := .later }
def FedRacksCardSaid : Prop := Claim7.holds Tryz.pinned (.plain (OpenSpec.ofChange fedRacksSpec)) fedRacksCard

/-- THE TIED CARD OF 'dispatchlaw22.FedDown'. -/
def fedDownCard : Claim7 := { stood := { row := fedDownRow, standIns := [], harness := (true, "d7d8aa4e8181ecaa90f2f74e16ca0474304d729393d64820b51f7668c71abf13"), looks := true }, kinds := [], alts := [], laidByText := true, laidKinds := [.data, .data, .data, .data, .sentinel, .sentinel, .pinned], laidTests := true, laidLooks := .later }
def FedDownCardSaid : Prop := Claim7.holds Tryz.pinned (.plain (OpenSpec.ofChange fedDownSpec)) fedDownCard

/-- THE TIED CARD OF 'dispatchlaw22.FedRefuses'. -/
def fedRefusesCard : Claim7 := { stood := { row := fedRefusesRow, standIns := [], harness := (true, "d7d8aa4e8181ecaa90f2f74e16ca0474304d729393d64820b51f7668c71abf13"), looks := true }, kinds := [], alts := [], laidByText := true, laidKinds := [.data, .data, .data, .data, .sentinel, .sentinel, .pinned], laidTests := true, laidLooks := .later }
def FedRefusesCardSaid : Prop := Claim7.holds Tryz.pinned (.plain (OpenSpec.ofChange fedRefusesSpec)) fedRefusesCard

/-- THE SECOND FORM's CARD OF 'dispatchlaw22.FedGrants'. -/
def fedGrantsUptoCard : Claim7 := { stood := { row := fedGrantsUptoRow, standIns := [], harness := (true, "d7d8aa4e8181ecaa90f2f74e16ca0474304d729393d64820b51f7668c71abf13"), looks := true }, kinds := [], alts := [], laidByText := true, laidKinds := [.data, .data, .data, .data, .sentinel, .sentinel, .pinned], laidTests := true, laidLooks := .later }
def FedGrantsUptoCardSaid : Prop := Claim7.holds Tryz.pinned (.plain (OpenSpec.upto fedGrantsSpec)) fedGrantsUptoCard

/-- THE SECOND FORM's CARD OF 'dispatchlaw22.FedRacks'. -/
def fedRacksUptoCard : Claim7 := { stood := { row := fedRacksUptoRow, standIns := [], harness := (true, "d7d8aa4e8181ecaa90f2f74e16ca0474304d729393d64820b51f7668c71abf13"), looks := true }, kinds := [], alts := [], laidByText := true, laidKinds := [.data, .data, .data, .data, .sentinel, .sentinel, .pinned], laidTests := true, laidLooks := .later }
def FedRacksUptoCardSaid : Prop := Claim7.holds Tryz.pinned (.plain (OpenSpec.upto fedRacksSpec)) fedRacksUptoCard

/-- THE SECOND FORM's CARD OF 'dispatchlaw22.FedDown'. -/
def fedDownUptoCard : Claim7 := { stood := { row := fedDownUptoRow, standIns := [], harness := (true, "d7d8aa4e8181ecaa90f2f74e16ca0474304d729393d64820b51f7668c71abf13"), looks := true }, kinds := [], alts := [], laidByText := true, laidKinds := [.data, .data, .data, .data, .sentinel, .sentinel, .pinned], laidTests := true, laidLooks := .later }
def FedDownUptoCardSaid : Prop := Claim7.holds Tryz.pinned (.plain (OpenSpec.upto fedDownSpec)) fedDownUptoCard

/-- THE SECOND FORM's CARD OF 'dispatchlaw22.FedRefuses'. -/
def fedRefusesUptoCard : Claim7 := { stood := { row := fedRefusesUptoRow, standIns := [], harness := (true, "d7d8aa4e8181ecaa90f2f74e16ca0474304d729393d64820b51f7668c71abf13"), looks := true }, kinds := [], alts := [], laidByText := true, laidKinds := [.data, .data, .data, .data, .sentinel, .sentinel, .pinned], laidTests := true, laidLooks := .later }
def FedRefusesUptoCardSaid : Prop := Claim7.holds Tryz.pinned (.plain (OpenSpec.upto fedRefusesSpec)) fedRefusesUptoCard
end Rows
end Go.Proofs.YtoehnfohceihbaaGreatDoor
