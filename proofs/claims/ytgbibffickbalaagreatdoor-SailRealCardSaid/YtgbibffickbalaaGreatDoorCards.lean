/-
  DERIVED. GIVEN WITH THE SEED: THE CARDS: each row of YtgbibffickbalaaGreatDoorRows.lean that lists a variable, with what it lists TIED to the program's text (the seventh form; the later family's looks); each row that meets fmt, with fmt's text TOLD by the authors' own Lean function (tested against real Go, not proved from fmt's source: count such statements apart). THE CARD IS WHAT COUNTS. Prove the row's statement (the work); the ties are given (YtgbibffickbalaaGreatDoorTie.lean); close each card by the builder's one call (the guide's Derived/Test/ToyasCard.lean, 'card_holds'). Laid BY PROGRAM, IN A SANDBOX (cutbox-door.mjs). By AI agents, Wed Nov 11 2026. No macro, syntax, notation, axiom, sorry.
-/
import Derived.Test.YtgbibffickbalaaGreatDoorRows
import GoSem.ClaimSeven
namespace Go.Proofs.YtgbibffickbalaaGreatDoor
namespace Rows

/-- THE TIED CARD OF 'velariumlaw05.SailReal'. -/
def sailRealCard : Claim7 := { stood := { row := sailRealRow, standIns := [], harness := (true, "0e6bcb8477cf3fdc705afa19c25adbbdd4cd0df021b54c88bc15c5b20a2a2cc2"), looks := false }, kinds := [], alts := [], goes := true, laidByText := true, laidKinds := [.funcs], laidTests := true, laidLooks := .later }
def SailRealCardSaid : Prop := Claim7.holds Tryz.pinned (.plain (OpenSpec.ofChange sailRealSpec)) sailRealCard

/-- THE SECOND FORM's CARD OF 'velariumlaw05.SailReal'. -/
def sailRealUptoCard : Claim7 := { stood := { row := sailRealUptoRow, standIns := [], harness := (true, "0e6bcb8477cf3fdc705afa19c25adbbdd4cd0df021b54c88bc15c5b20a2a2cc2"), looks := false }, kinds := [], alts := [], goes := true, laidByText := true, laidKinds := [.funcs], laidTests := true, laidLooks := .later }
def SailRealUptoCardSaid : Prop := Claim7.holds Tryz.pinned (.plain (OpenSpec.upto sailRealSpec)) sailRealUptoCard
end Rows
end Go.Proofs.YtgbibffickbalaaGreatDoor
