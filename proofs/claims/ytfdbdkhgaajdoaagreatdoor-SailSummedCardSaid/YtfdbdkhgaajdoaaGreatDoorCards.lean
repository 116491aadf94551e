/-
  DERIVED. GIVEN WITH THE SEED: THE CARDS: each row of YtfdbdkhgaajdoaaGreatDoorRows.lean that lists a variable, with what it lists TIED to the program's text (the seventh form; the later family's looks); each row that meets fmt, with fmt's text TOLD by the authors' own Lean function (tested against real Go, not proved from fmt's source: count such statements apart). THE CARD IS WHAT COUNTS. Prove the row's statement (the work); the ties are given (YtfdbdkhgaajdoaaGreatDoorTie.lean); close each card by the builder's one call (the guide's Derived/Test/ToyasCard.lean, 'card_holds'). Laid BY PROGRAM, IN A SANDBOX (cutbox-door.mjs). By AI agents, Wed Nov 11 2026. No macro, syntax, notation, axiom, sorry.
-/
import Derived.Test.YtfdbdkhgaajdoaaGreatDoorRows
import GoSem.ClaimSeven
namespace Go.Proofs.YtfdbdkhgaajdoaaGreatDoor
namespace Rows

/-- THE TIED CARD OF 'velariumlaw05.SailSummed'. -/
def sailSummedCard : Claim7 := { stood := { row := sailSummedRow, standIns := [], harness := (true, "d26c684875c8bae4047ab7699cf530cce91579bb148cf552a6dc18149db57068"), looks := false }, kinds := [], alts := [], goes := true, laidByText := true, laidKinds := [.funcs], laidTests := true, laidLooks := .later }
def SailSummedCardSaid : Prop := Claim7.holds Tryz.pinned (.plain (OpenSpec.ofChange sailSummedSpec)) sailSummedCard

/-- THE SECOND FORM's CARD OF 'velariumlaw05.SailSummed'. -/
def sailSummedUptoCard : Claim7 := { stood := { row := sailSummedUptoRow, standIns := [], harness := (true, "d26c684875c8bae4047ab7699cf530cce91579bb148cf552a6dc18149db57068"), looks := false }, kinds := [], alts := [], goes := true, laidByText := true, laidKinds := [.funcs], laidTests := true, laidLooks := .later }
def SailSummedUptoCardSaid : Prop := Claim7.holds Tryz.pinned (.plain (OpenSpec.upto sailSummedSpec)) sailSummedUptoCard
end Rows
end Go.Proofs.YtfdbdkhgaajdoaaGreatDoor
