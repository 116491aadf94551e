/-
  DERIVED. GIVEN WITH THE SEED: THE CARDS: each row of YtiffpgohclmlmaaGreatDoorRows.lean that lists a variable, with what it lists TIED to the program's text (the seventh form; the later family's looks); each row that meets fmt, with fmt's text TOLD by the authors' own Lean function (tested against real Go, not proved from fmt's source: count such statements apart). THE CARD IS WHAT COUNTS. Prove the row's statement (the work); the ties are given (YtiffpgohclmlmaaGreatDoorTie.lean); close each card by the builder's one call (the guide's Derived/Test/ToyasCard.lean, 'card_holds'). Laid BY PROGRAM, IN A SANDBOX (cutbox-door.mjs). By AI agents, Wed Nov 11 2026. No macro, syntax, notation, axiom, sorry.
-/
import Derived.Test.YtiffpgohclmlmaaGreatDoorRows
import GoSem.ClaimSeven
namespace Go.Proofs.YtiffpgohclmlmaaGreatDoor
namespace Rows

/-- THE TIED CARD OF 'velariumlaw05.SailNoOthers'. -/
def sailNoOthersCard : Claim7 := { stood := { row := sailNoOthersRow, standIns := [], harness := (true, "05e43384fa55cd915aa9f61dbdb663aecdfa3420ca1e9381af3b489547c0c10d"), looks := false }, kinds := [], alts := [], goes := true, laidByText := true, laidKinds := [.funcs], laidTests := true, laidLooks := .later }
def SailNoOthersCardSaid : Prop := Claim7.holds Tryz.pinned (.plain (OpenSpec.ofChange sailNoOthersSpec)) sailNoOthersCard

/-- THE SECOND FORM's CARD OF 'velariumlaw05.SailNoOthers'. -/
def sailNoOthersUptoCard : Claim7 := { stood := { row := sailNoOthersUptoRow, standIns := [], harness := (true, "05e43384fa55cd915aa9f61dbdb663aecdfa3420ca1e9381af3b489547c0c10d"), looks := false }, kinds := [], alts := [], goes := true, laidByText := true, laidKinds := [.funcs], laidTests := true, laidLooks := .later }
def SailNoOthersUptoCardSaid : Prop := Claim7.holds Tryz.pinned (.plain (OpenSpec.upto sailNoOthersSpec)) sailNoOthersUptoCard
end Rows
end Go.Proofs.YtiffpgohclmlmaaGreatDoor
