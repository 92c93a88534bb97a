/-
  DERIVED. GIVEN WITH THE SEED: THE CARDS: each row of YtbnnmplkbpgcaaaDoorRows.lean that lists a variable, with what it lists TIED to the program's text (the seventh form; the later family's looks); each row that meets fmt, with fmt's text TOLD by the authors' own Lean function (tested against real Go, not proved from fmt's source: count such statements apart). THE CARD IS WHAT COUNTS. Prove the row's statement (the work); the ties are given (YtbnnmplkbpgcaaaDoorTie.lean); close each card by the builder's one call (the guide's Derived/Test/ToyasCard.lean, 'card_holds'). Laid BY PROGRAM, IN A SANDBOX (cutbox-door.mjs). By AI agents, Wed Nov 11 2026. No macro, syntax, notation, axiom, sorry.
-/
import Derived.Test.YtbnnmplkbpgcaaaDoorRows
import GoSem.ClaimSeven
namespace Go.Proofs.YtbnnmplkbpgcaaaDoor
namespace Rows

/-- THE TIED CARD OF 'heliographlaw09.BundleDecodes'. -/
def bundleDecodesCard : Claim7 := { stood := { row := bundleDecodesRow, standIns := [], harness := (true, "7852ad45a36809b396c453242f632351dbef721a7dc13a8474df7a2a37d2c316"), looks := false }, kinds := [], alts := [], laidByText := true, laidKinds := [.data, .pinned], laidTests := true, laidLooks := .later }
def BundleDecodesCardSaid : Prop := Claim7.holds Tryd.pinned (.plain (OpenSpec.ofChange bundleDecodesSpec)) bundleDecodesCard

/-- THE TIED CARD OF 'heliographlaw09.BundleHops'. -/
def bundleHopsCard : Claim7 := { stood := { row := bundleHopsRow, standIns := [], harness := (true, "7852ad45a36809b396c453242f632351dbef721a7dc13a8474df7a2a37d2c316"), looks := false }, kinds := [], alts := [], laidByText := true, laidKinds := [.data, .pinned], laidTests := true, laidLooks := .later }
def BundleHopsCardSaid : Prop := Claim7.holds Tryd.pinned (.plain (OpenSpec.ofChange bundleHopsSpec)) bundleHopsCard

/-- THE TIED CARD OF 'heliographlaw09.BundleBits'. -/
def bundleBitsCard : Claim7 := { stood := { row := bundleBitsRow, standIns := [], harness := (true, "7852ad45a36809b396c453242f632351dbef721a7dc13a8474df7a2a37d2c316"), looks := false }, kinds := [], alts := [], laidByText := true, laidKinds := [.data, .pinned], laidTests := true, laidLooks := .later }
def BundleBitsCardSaid : Prop := Claim7.holds Tryd.pinned (.plain (OpenSpec.ofChange bundleBitsSpec)) bundleBitsCard

/-- THE TIED CARD OF 'heliographlaw09.BundleEncodes'. -/
def bundleEncodesCard : Claim7 := { stood := { row := bundleEncodesRow, standIns := [], harness := (true, "7852ad45a36809b396c453242f632351dbef721a7dc13a8474df7a2a37d2c316"), looks := false }, kinds := [], alts := [], laidByText := true, laidKinds := [.data, .pinned], laidTests := true, laidLooks := .later }
def BundleEncodesCardSaid : Prop := Claim7.holds Tryd.pinned (.plain (OpenSpec.ofChange bundleEncodesSpec)) bundleEncodesCard

/-- THE TIED CARD OF 'heliographlaw09.BundleBack'. -/
def bundleBackCard : Claim7 := { stood := { row := bundleBackRow, standIns := [], harness := (true, "7852ad45a36809b396c453242f632351dbef721a7dc13a8474df7a2a37d2c316"), looks := false }, kinds := [], alts := [], laidByText := true, laidKinds := [.data, .pinned], laidTests := true, laidLooks := .later }
def BundleBackCardSaid : Prop := Claim7.holds Tryd.pinned (.plain (OpenSpec.ofChange bundleBackSpec)) bundleBackCard

/-- THE TIED CARD OF 'heliographlaw09.BundleTells'. -/
def bundleTellsCard : Claim7 := { stood := { row := bundleTellsRow, standIns := [], harness := (true, "7852ad45a36809b396c453242f632351dbef721a7dc13a8474df7a2a37d2c316"), looks := false }, kinds := [], alts := [], laidByText := true, laidKinds := [.data, .pinned], laidTests := true, laidLooks := .later }
def BundleTellsCardSaid : Prop := Claim7.holds Tryd.pinned (.plain (OpenSpec.ofChange bundleTellsSpec)) bundleTellsCard

/-- THE SECOND FORM's CARD OF 'heliographlaw09.BundleDecodes'. -/
def bundleDecodesUptoCard : Claim7 := { stood := { row := bundleDecodesUptoRow, standIns := [], harness := (true, "7852ad45a36809b396c453242f632351dbef721a7dc13a8474df7a2a37d2c316"), looks := false }, kinds := [], alts := [], laidByText := true, laidKinds := [.data, .pinned], laidTests := true, laidLooks := .later }
def BundleDecodesUptoCardSaid : Prop := Claim7.holds Tryd.pinned (.plain (OpenSpec.upto bundleDecodesSpec)) bundleDecodesUptoCard

/-- THE SECOND FORM's CARD OF 'heliographlaw09.BundleHops'. -/
def bundleHopsUptoCard : Claim7 := { stood := { row := bundleHopsUptoRow, standIns := [], harness := (true, "7852ad45a36809b396c453242f632351dbef721a7dc13a8474df7a2a37d2c316"), looks := false }, kinds := [], alts := [], laidByText := true, laidKinds := [.data, .pinned], laidTests := true, laidLooks := .later }
def BundleHopsUptoCardSaid : Prop := Claim7.holds Tryd.pinned (.plain (OpenSpec.upto bundleHopsSpec)) bundleHopsUptoCard

/-- THE SECOND FORM's CARD OF 'heliographlaw09.BundleBits'. -/
def bundleBitsUptoCard : Claim7 := { stood := { row := bundleBitsUptoRow, standIns := [], harness := (true, "7852ad45a36809b396c453242f632351dbef721a7dc13a8474df7a2a37d2c316"), looks := false }, kinds := [], alts := [], laidByText := true, laidKinds := [.data, .pinned], laidTests := true, laidLooks := .later }
def BundleBitsUptoCardSaid : Prop := Claim7.holds Tryd.pinned (.plain (OpenSpec.upto bundleBitsSpec)) bundleBitsUptoCard

/-- THE SECOND FORM's CARD OF 'heliographlaw09.BundleEncodes'. -/
def bundleEncodesUptoCard : Claim7 := { stood := { row := bundleEncodesUptoRow, standIns := [], harness := (true, "7852ad45a36809b396c453242f632351dbef721a7dc13a8474df7a2a37d2c316"), looks := false }, kinds := [], alts := [], laidByText := true, laidKinds := [.data, .pinned], laidTests := true, laidLooks := .later }
def BundleEncodesUptoCardSaid : Prop := Claim7.holds Tryd.pinned (.plain (OpenSpec.upto bundleEncodesSpec)) bundleEncodesUptoCard

/-- THE SECOND FORM's CARD OF 'heliographlaw09.BundleBack'. -/
def bundleBackUptoCard : Claim7 := { stood := { row := bundleBackUptoRow, standIns := [], harness := (true, "7852ad45a36809b396c453242f632351dbef721a7dc13a8474df7a2a37d2c316"), looks := false }, kinds := [], alts := [], laidByText := true, laidKinds := [.data, .pinned], laidTests := true, laidLooks := .later }
def BundleBackUptoCardSaid : Prop := Claim7.holds Tryd.pinned (.plain (OpenSpec.upto bundleBackSpec)) bundleBackUptoCard

/-- THE SECOND FORM's CARD OF 'heliographlaw09.BundleTells'. -/
def bundleTellsUptoCard : Claim7 := { stood := { row := bundleTellsUptoRow, standIns := [], harness := (true, "7852ad45a36809b396c453242f632351dbef721a7dc13a8474df7a2a37d2c316"), looks := false }, kinds := [], alts := [], laidByText := true, laidKinds := [.data, .pinned], laidTests := true, laidLooks := .later }
def BundleTellsUptoCardSaid : Prop := Claim7.holds Tryd.pinned (.plain (OpenSpec.upto bundleTellsSpec)) bundleTellsUptoCard
end Rows
end Go.Proofs.YtbnnmplkbpgcaaaDoor
