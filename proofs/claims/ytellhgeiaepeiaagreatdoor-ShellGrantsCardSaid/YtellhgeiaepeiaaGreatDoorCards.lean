/-
  DERIVED. GIVEN WITH THE SEED: THE CARDS: each row of YtellhgeiaepeiaaGreatDoorRows.lean that lists a variable, with what it lists TIED to the program's text (the seventh form; the later family's looks); each row that meets fmt, with fmt's text TOLD by the authors' own Lean function (tested against real Go, not proved from fmt's source: count such statements apart). THE CARD IS WHAT COUNTS. Prove the row's statement (the work); the ties are given (YtellhgeiaepeiaaGreatDoorTie.lean); close each card by the builder's one call (the guide's Derived/Test/ToyasCard.lean, 'card_holds'). Laid BY PROGRAM, IN A SANDBOX (cutbox-door.mjs). By AI agents, Wed Nov 11 2026. No macro, syntax, notation, axiom, sorry.
-/
import Derived.Test.YtellhgeiaepeiaaGreatDoorRows
import GoSem.ClaimSeven
namespace Go.Proofs.YtellhgeiaepeiaaGreatDoor
namespace Rows

/-- THE TIED CARD OF 'dispatchlaw23.ShellGrants'. -/
def shellGrantsCard : Claim7 := { stood := { row := shellGrantsRow, standIns := [], harness := (true, "abdd396f8f0f6713918c9dd2213eb61672982bfe81f222f7c7596ffa32d122b6"), looks := true }, kinds := [], alts := [], laidByText := true, laidKinds := [.data, .data, .data, .data, .sentinel, .sentinel, .pinned], laidTests := true, laidLooks := .later }
def ShellGrantsCardSaid : Prop := Claim7.holds Tryz.pinned (.plain (OpenSpec.ofChange shellGrantsSpec)) shellGrantsCard

/-- THE SECOND FORM's CARD OF 'dispatchlaw23.ShellGrants'. -/
def shellGrantsUptoCard : Claim7 := { stood := { row := shellGrantsUptoRow, standIns := [], harness := (true, "abdd396f8f0f6713918c9dd2213eb61672982bfe81f222f7c7596ffa32d122b6"), looks := true }, kinds := [], alts := [], laidByText := true, laidKinds := [.data, .data, .data, .data, .sentinel, .sentinel, .pinned], laidTests := true, laidLooks := .later }
def ShellGrantsUptoCardSaid : Prop := Claim7.holds Tryz.pinned (.plain (OpenSpec.upto shellGrantsSpec)) shellGrantsUptoCard
end Rows
end Go.Proofs.YtellhgeiaepeiaaGreatDoor
