/-
  DERIVED. GIVEN WITH THE SEED: THE CARDS: each row of YtfhdnnmilenklaaGreatDoorRows.lean that lists a variable, with what it lists TIED to the program's text (the seventh form; the later family's looks); each row that meets fmt, with fmt's text TOLD by the authors' own Lean function (tested against real Go, not proved from fmt's source: count such statements apart). THE CARD IS WHAT COUNTS. Prove the row's statement (the work); the ties are given (YtfhdnnmilenklaaGreatDoorTie.lean); close each card by the builder's one call (the guide's Derived/Test/ToyasCard.lean, 'card_holds'). Laid BY PROGRAM, IN A SANDBOX (cutbox-door.mjs). By AI agents, Wed Nov 11 2026. No macro, syntax, notation, axiom, sorry.
-/
import Derived.Test.YtfhdnnmilenklaaGreatDoorRows
import GoSem.ClaimSeven
namespace Go.Proofs.YtfhdnnmilenklaaGreatDoor
namespace Rows

/-- THE TIED CARD OF 'velariumlaw05.SailReal'. -/
def sailRealCard : Claim7 := { stood := { row := sailRealRow, standIns := [], harness := (true, "3ff0944f7da7ba7ef9bf0f267ed12bdd8624e4eee9a1bab3e5ab6a0f8481219f"), looks := false }, kinds := [], alts := [], goes := true, laidByText := true, laidKinds := [.funcs], laidTests := true, laidLooks := .later }
def SailRealCardSaid : Prop := Claim7.holds Tryz.pinned (.plain (OpenSpec.ofChange sailRealSpec)) sailRealCard

/-- THE TIED CARD OF 'velariumlaw05.SailAsked'. -/
def sailAskedCard : Claim7 := { stood := { row := sailAskedRow, standIns := [], harness := (true, "3ff0944f7da7ba7ef9bf0f267ed12bdd8624e4eee9a1bab3e5ab6a0f8481219f"), looks := false }, kinds := [], alts := [], goes := true, laidByText := true, laidKinds := [.funcs], laidTests := true, laidLooks := .later }
def SailAskedCardSaid : Prop := Claim7.holds Tryz.pinned (.plain (OpenSpec.ofChange sailAskedSpec)) sailAskedCard

/-- THE TIED CARD OF 'velariumlaw05.SailNoOthers'. -/
def sailNoOthersCard : Claim7 := { stood := { row := sailNoOthersRow, standIns := [], harness := (true, "3ff0944f7da7ba7ef9bf0f267ed12bdd8624e4eee9a1bab3e5ab6a0f8481219f"), looks := false }, kinds := [], alts := [], goes := true, laidByText := true, laidKinds := [.funcs], laidTests := true, laidLooks := .later }
def SailNoOthersCardSaid : Prop := Claim7.holds Tryz.pinned (.plain (OpenSpec.ofChange sailNoOthersSpec)) sailNoOthersCard

/-- THE SECOND FORM's CARD OF 'velariumlaw05.SailReal'. -/
def sailRealUptoCard : Claim7 := { stood := { row := sailRealUptoRow, standIns := [], harness := (true, "3ff0944f7da7ba7ef9bf0f267ed12bdd8624e4eee9a1bab3e5ab6a0f8481219f"), looks := false }, kinds := [], alts := [], goes := true, laidByText := true, laidKinds := [.funcs], laidTests := true, laidLooks := .later }
def SailRealUptoCardSaid : Prop := Claim7.holds Tryz.pinned (.plain (OpenSpec.upto sailRealSpec)) sailRealUptoCard

/-- THE SECOND FORM's CARD OF 'velariumlaw05.SailAsked'. -/
def sailAskedUptoCard : Claim7 := { stood := { row := sailAskedUptoRow, standIns := [], harness := (true, "3ff0944f7da7ba7ef9bf0f267ed12bdd8624e4eee9a1bab3e5ab6a0f8481219f"), looks := false }, kinds := [], alts := [], goes := true, laidByText := true, laidKinds := [.funcs], laidTests := true, laidLooks := .later }
def SailAskedUptoCardSaid : Prop := Claim7.holds Tryz.pinned (.plain (OpenSpec.upto sailAskedSpec)) sailAskedUptoCard

/-- THE SECOND FORM's CARD OF 'velariumlaw05.SailNoOthers'. -/
def sailNoOthersUptoCard : Claim7 := { stood := { row := sailNoOthersUptoRow, standIns := [], harness := (true, "3ff0944f7da7ba7ef9bf0f267ed12bdd8624e4eee9a1bab3e5ab6a0f8481219f"), looks := false }, kinds := [], alts := [], goes := true, laidByText := true, laidKinds := [.funcs], laidTests := true, laidLooks := .later }
def SailNoOthersUptoCardSaid : Prop := Claim7.holds Tryz.pinned (.plain (OpenSpec.upto sailNoOthersSpec)) sailNoOthersUptoCard
end Rows
end Go.Proofs.YtfhdnnmilenklaaGreatDoor
