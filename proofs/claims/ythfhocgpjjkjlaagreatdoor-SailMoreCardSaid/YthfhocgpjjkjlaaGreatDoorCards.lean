/-
  DERIVED. GIVEN WITH THE SEED: THE CARDS: each row of YthfhocgpjjkjlaaGreatDoorRows.lean that lists a variable, with what it lists TIED to the program's text (the seventh form; the later family's looks); each row that meets fmt, with fmt's text TOLD by the authors' own Lean function (tested against real Go, not proved from fmt's source: count such statements apart). THE CARD IS WHAT COUNTS. Prove the row's statement (the work); the ties are given (YthfhocgpjjkjlaaGreatDoorTie.lean); close each card by the builder's one call (the guide's Derived/Test/ToyasCard.lean, 'card_holds'). Laid BY PROGRAM, IN A SANDBOX (cutbox-door.mjs). By AI agents, Wed Nov 11 2026. No macro, syntax, notation, axiom, sorry.
-/
import Derived.Test.YthfhocgpjjkjlaaGreatDoorRows
import GoSem.ClaimSeven
namespace Go.Proofs.YthfhocgpjjkjlaaGreatDoor
namespace Rows

/-- THE TIED CARD OF 'velariumlaw05.SailMore'. -/
def sailMoreCard : Claim7 := { stood := { row := sailMoreRow, standIns := [], harness := (true, "0a2522f5ffb8a620fbc81da1ab47313b4ccf21da831104aa9047a2c94ffe217a"), looks := false }, kinds := [], alts := [], goes := true, laidByText := true, laidKinds := [.funcs], laidTests := true, laidLooks := .later }
def SailMoreCardSaid : Prop := Claim7.holds Tryz.pinned (.plain (OpenSpec.ofChange sailMoreSpec)) sailMoreCard

/-- THE SECOND FORM's CARD OF 'velariumlaw05.SailMore'. -/
def sailMoreUptoCard : Claim7 := { stood := { row := sailMoreUptoRow, standIns := [], harness := (true, "0a2522f5ffb8a620fbc81da1ab47313b4ccf21da831104aa9047a2c94ffe217a"), looks := false }, kinds := [], alts := [], goes := true, laidByText := true, laidKinds := [.funcs], laidTests := true, laidLooks := .later }
def SailMoreUptoCardSaid : Prop := Claim7.holds Tryz.pinned (.plain (OpenSpec.upto sailMoreSpec)) sailMoreUptoCard
end Rows
end Go.Proofs.YthfhocgpjjkjlaaGreatDoor
