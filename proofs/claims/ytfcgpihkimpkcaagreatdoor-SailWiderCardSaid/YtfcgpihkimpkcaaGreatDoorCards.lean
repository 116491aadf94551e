/-
  DERIVED. GIVEN WITH THE SEED: THE CARDS: each row of YtfcgpihkimpkcaaGreatDoorRows.lean that lists a variable, with what it lists TIED to the program's text (the seventh form; the later family's looks); each row that meets fmt, with fmt's text TOLD by the authors' own Lean function (tested against real Go, not proved from fmt's source: count such statements apart). THE CARD IS WHAT COUNTS. Prove the row's statement (the work); the ties are given (YtfcgpihkimpkcaaGreatDoorTie.lean); close each card by the builder's one call (the guide's Derived/Test/ToyasCard.lean, 'card_holds'). Laid BY PROGRAM, IN A SANDBOX (cutbox-door.mjs). By AI agents, Wed Nov 11 2026. No macro, syntax, notation, axiom, sorry.
-/
import Derived.Test.YtfcgpihkimpkcaaGreatDoorRows
import GoSem.ClaimSeven
namespace Go.Proofs.YtfcgpihkimpkcaaGreatDoor
namespace Rows

/-- THE TIED CARD OF 'velariumlaw05.SailLight'. -/
def sailLightCard : Claim7 := { stood := { row := sailLightRow, standIns := [], harness := (true, "7e8dca03d4ec6397f0c053951ad34d508ceb2857f2d23a6e02e229dc371baeec"), looks := false }, kinds := [], alts := [], goes := true, laidByText := true, laidKinds := [.funcs], laidTests := true, laidLooks := .later }
def SailLightCardSaid : Prop := Claim7.holds Tryz.pinned (.plain (OpenSpec.ofChange sailLightSpec)) sailLightCard

/-- THE TIED CARD OF 'velariumlaw05.SailEyes'. -/
def sailEyesCard : Claim7 := { stood := { row := sailEyesRow, standIns := [], harness := (true, "7e8dca03d4ec6397f0c053951ad34d508ceb2857f2d23a6e02e229dc371baeec"), looks := false }, kinds := [], alts := [], goes := true, laidByText := true, laidKinds := [.funcs], laidTests := true, laidLooks := .later }
def SailEyesCardSaid : Prop := Claim7.holds Tryz.pinned (.plain (OpenSpec.ofChange sailEyesSpec)) sailEyesCard

/-- THE TIED CARD OF 'velariumlaw05.SailHides'. -/
def sailHidesCard : Claim7 := { stood := { row := sailHidesRow, standIns := [], harness := (true, "7e8dca03d4ec6397f0c053951ad34d508ceb2857f2d23a6e02e229dc371baeec"), looks := false }, kinds := [], alts := [], goes := true, laidByText := true, laidKinds := [.funcs], laidTests := true, laidLooks := .later }
def SailHidesCardSaid : Prop := Claim7.holds Tryz.pinned (.plain (OpenSpec.ofChange sailHidesSpec)) sailHidesCard

/-- THE TIED CARD OF 'velariumlaw05.SailWider'. -/
def sailWiderCard : Claim7 := { stood := { row := sailWiderRow, standIns := [], harness := (true, "7e8dca03d4ec6397f0c053951ad34d508ceb2857f2d23a6e02e229dc371baeec"), looks := false }, kinds := [], alts := [], goes := true, laidByText := true, laidKinds := [.funcs], laidTests := true, laidLooks := .later }
def SailWiderCardSaid : Prop := Claim7.holds Tryz.pinned (.plain (OpenSpec.ofChange sailWiderSpec)) sailWiderCard

/-- THE SECOND FORM's CARD OF 'velariumlaw05.SailLight'. -/
def sailLightUptoCard : Claim7 := { stood := { row := sailLightUptoRow, standIns := [], harness := (true, "7e8dca03d4ec6397f0c053951ad34d508ceb2857f2d23a6e02e229dc371baeec"), looks := false }, kinds := [], alts := [], goes := true, laidByText := true, laidKinds := [.funcs], laidTests := true, laidLooks := .later }
def SailLightUptoCardSaid : Prop := Claim7.holds Tryz.pinned (.plain (OpenSpec.upto sailLightSpec)) sailLightUptoCard

/-- THE SECOND FORM's CARD OF 'velariumlaw05.SailEyes'. -/
def sailEyesUptoCard : Claim7 := { stood := { row := sailEyesUptoRow, standIns := [], harness := (true, "7e8dca03d4ec6397f0c053951ad34d508ceb2857f2d23a6e02e229dc371baeec"), looks := false }, kinds := [], alts := [], goes := true, laidByText := true, laidKinds := [.funcs], laidTests := true, laidLooks := .later }
def SailEyesUptoCardSaid : Prop := Claim7.holds Tryz.pinned (.plain (OpenSpec.upto sailEyesSpec)) sailEyesUptoCard

/-- THE SECOND FORM's CARD OF 'velariumlaw05.SailHides'. -/
def sailHidesUptoCard : Claim7 := { stood := { row := sailHidesUptoRow, standIns := [], harness := (true, "7e8dca03d4ec6397f0c053951ad34d508ceb2857f2d23a6e02e229dc371baeec"), looks := false }, kinds := [], alts := [], goes := true, laidByText := true, laidKinds := [.funcs], laidTests := true, laidLooks := .later }
def SailHidesUptoCardSaid : Prop := Claim7.holds Tryz.pinned (.plain (OpenSpec.upto sailHidesSpec)) sailHidesUptoCard

/-- THE SECOND FORM's CARD OF 'velariumlaw05.SailWider'. -/
def sailWiderUptoCard : Claim7 := { stood := { row := sailWiderUptoRow, standIns := [], harness := (true, "7e8dca03d4ec6397f0c053951ad34d508ceb2857f2d23a6e02e229dc371baeec"), looks := false }, kinds := [], alts := [], goes := true, laidByText := true, laidKinds := [.funcs], laidTests := true, laidLooks := .later }
def SailWiderUptoCardSaid : Prop := Claim7.holds Tryz.pinned (.plain (OpenSpec.upto sailWiderSpec)) sailWiderUptoCard
end Rows
end Go.Proofs.YtfcgpihkimpkcaaGreatDoor
