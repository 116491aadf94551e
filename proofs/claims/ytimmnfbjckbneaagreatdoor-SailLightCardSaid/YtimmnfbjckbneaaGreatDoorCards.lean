/-
  DERIVED. GIVEN WITH THE SEED: THE CARDS: each row of YtimmnfbjckbneaaGreatDoorRows.lean that lists a variable, with what it lists TIED to the program's text (the seventh form; the later family's looks); each row that meets fmt, with fmt's text TOLD by the authors' own Lean function (tested against real Go, not proved from fmt's source: count such statements apart). THE CARD IS WHAT COUNTS. Prove the row's statement (the work); the ties are given (YtimmnfbjckbneaaGreatDoorTie.lean); close each card by the builder's one call (the guide's Derived/Test/ToyasCard.lean, 'card_holds'). Laid BY PROGRAM, IN A SANDBOX (cutbox-door.mjs). By AI agents, Wed Nov 11 2026. No macro, syntax, notation, axiom, sorry.
-/
import Derived.Test.YtimmnfbjckbneaaGreatDoorRows
import GoSem.ClaimSeven
namespace Go.Proofs.YtimmnfbjckbneaaGreatDoor
namespace Rows

/-- THE TIED CARD OF 'velariumlaw05.SailLight'. -/
def sailLightCard : Claim7 := { stood := { row := sailLightRow, standIns := [], harness := (true, "13d2a8aa782bfb0c3fcefb8c36b32d87700c50755c284c36f44a79e45db71eb1"), looks := false }, kinds := [], alts := [], goes := true, laidByText := true, laidKinds := [.funcs], laidTests := true, laidLooks := .later }
def SailLightCardSaid : Prop := Claim7.holds Tryz.pinned (.plain (OpenSpec.ofChange sailLightSpec)) sailLightCard

/-- THE SECOND FORM's CARD OF 'velariumlaw05.SailLight'. -/
def sailLightUptoCard : Claim7 := { stood := { row := sailLightUptoRow, standIns := [], harness := (true, "13d2a8aa782bfb0c3fcefb8c36b32d87700c50755c284c36f44a79e45db71eb1"), looks := false }, kinds := [], alts := [], goes := true, laidByText := true, laidKinds := [.funcs], laidTests := true, laidLooks := .later }
def SailLightUptoCardSaid : Prop := Claim7.holds Tryz.pinned (.plain (OpenSpec.upto sailLightSpec)) sailLightUptoCard
end Rows
end Go.Proofs.YtimmnfbjckbneaaGreatDoor
