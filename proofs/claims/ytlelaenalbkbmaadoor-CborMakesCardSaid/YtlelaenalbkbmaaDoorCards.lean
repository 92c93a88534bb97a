/-
  DERIVED. GIVEN WITH THE SEED: THE CARDS: each row of YtlelaenalbkbmaaDoorRows.lean that lists a variable, with what it lists TIED to the program's text (the seventh form; the later family's looks); each row that meets fmt, with fmt's text TOLD by the authors' own Lean function (tested against real Go, not proved from fmt's source: count such statements apart). THE CARD IS WHAT COUNTS. Prove the row's statement (the work); the ties are given (YtlelaenalbkbmaaDoorTie.lean); close each card by the builder's one call (the guide's Derived/Test/ToyasCard.lean, 'card_holds'). Laid BY PROGRAM, IN A SANDBOX (cutbox-door.mjs). By AI agents, Wed Nov 11 2026. No macro, syntax, notation, axiom, sorry.
-/
import Derived.Test.YtlelaenalbkbmaaDoorRows
import GoSem.ClaimSeven
namespace Go.Proofs.YtlelaenalbkbmaaDoor
namespace Rows

/-- THE TIED CARD OF 'heliographlaw07.CborEncodes'. -/
def cborEncodesCard : Claim7 := { stood := { row := cborEncodesRow, standIns := [], harness := (true, "7814ac63a2ac76ffb0b57afccbc5b7795bd19b697778d169a6d2bae0559d7ac3"), looks := false }, kinds := [], alts := [], laidByText := true, laidKinds := [.data, .pinned], laidTests := true, laidLooks := .later }
def CborEncodesCardSaid : Prop := Claim7.holds Tryd.pinned (.plain (OpenSpec.ofChange cborEncodesSpec)) cborEncodesCard

/-- THE TIED CARD OF 'heliographlaw07.CborMakes'. -/
def cborMakesCard : Claim7 := { stood := { row := cborMakesRow, standIns := [], harness := (true, "7814ac63a2ac76ffb0b57afccbc5b7795bd19b697778d169a6d2bae0559d7ac3"), looks := false }, kinds := [], alts := [], laidByText := true, laidKinds := [.data, .pinned], laidTests := true, laidLooks := .later }
def CborMakesCardSaid : Prop := Claim7.holds Tryd.pinned (.plain (OpenSpec.ofChange cborMakesSpec)) cborMakesCard

/-- THE TIED CARD OF 'heliographlaw07.CborBack'. -/
def cborBackCard : Claim7 := { stood := { row := cborBackRow, standIns := [], harness := (true, "7814ac63a2ac76ffb0b57afccbc5b7795bd19b697778d169a6d2bae0559d7ac3"), looks := false }, kinds := [], alts := [], laidByText := true, laidKinds := [.data, .pinned], laidTests := true, laidLooks := .later }
def CborBackCardSaid : Prop := Claim7.holds Tryd.pinned (.plain (OpenSpec.ofChange cborBackSpec)) cborBackCard

/-- THE TIED CARD OF 'heliographlaw07.CborAgain'. -/
def cborAgainCard : Claim7 := { stood := { row := cborAgainRow, standIns := [], harness := (true, "7814ac63a2ac76ffb0b57afccbc5b7795bd19b697778d169a6d2bae0559d7ac3"), looks := false }, kinds := [], alts := [], laidByText := true, laidKinds := [.data, .pinned], laidTests := true, laidLooks := .later }
def CborAgainCardSaid : Prop := Claim7.holds Tryd.pinned (.plain (OpenSpec.ofChange cborAgainSpec)) cborAgainCard

/-- THE TIED CARD OF 'heliographlaw07.CborTwo'. -/
def cborTwoCard : Claim7 := { stood := { row := cborTwoRow, standIns := [], harness := (true, "7814ac63a2ac76ffb0b57afccbc5b7795bd19b697778d169a6d2bae0559d7ac3"), looks := false }, kinds := [], alts := [], laidByText := true, laidKinds := [.data, .pinned], laidTests := true, laidLooks := .later }
def CborTwoCardSaid : Prop := Claim7.holds Tryd.pinned (.plain (OpenSpec.ofChange cborTwoSpec)) cborTwoCard

/-- THE SECOND FORM's CARD OF 'heliographlaw07.CborEncodes'. -/
def cborEncodesUptoCard : Claim7 := { stood := { row := cborEncodesUptoRow, standIns := [], harness := (true, "7814ac63a2ac76ffb0b57afccbc5b7795bd19b697778d169a6d2bae0559d7ac3"), looks := false }, kinds := [], alts := [], laidByText := true, laidKinds := [.data, .pinned], laidTests := true, laidLooks := .later }
def CborEncodesUptoCardSaid : Prop := Claim7.holds Tryd.pinned (.plain (OpenSpec.upto cborEncodesSpec)) cborEncodesUptoCard

/-- THE SECOND FORM's CARD OF 'heliographlaw07.CborMakes'. -/
def cborMakesUptoCard : Claim7 := { stood := { row := cborMakesUptoRow, standIns := [], harness := (true, "7814ac63a2ac76ffb0b57afccbc5b7795bd19b697778d169a6d2bae0559d7ac3"), looks := false }, kinds := [], alts := [], laidByText := true, laidKinds := [.data, .pinned], laidTests := true, laidLooks := .later }
def CborMakesUptoCardSaid : Prop := Claim7.holds Tryd.pinned (.plain (OpenSpec.upto cborMakesSpec)) cborMakesUptoCard

/-- THE SECOND FORM's CARD OF 'heliographlaw07.CborBack'. -/
def cborBackUptoCard : Claim7 := { stood := { row := cborBackUptoRow, standIns := [], harness := (true, "7814ac63a2ac76ffb0b57afccbc5b7795bd19b697778d169a6d2bae0559d7ac3"), looks := false }, kinds := [], alts := [], laidByText := true, laidKinds := [.data, .pinned], laidTests := true, laidLooks := .later }
def CborBackUptoCardSaid : Prop := Claim7.holds Tryd.pinned (.plain (OpenSpec.upto cborBackSpec)) cborBackUptoCard

/-- THE SECOND FORM's CARD OF 'heliographlaw07.CborAgain'. -/
def cborAgainUptoCard : Claim7 := { stood := { row := cborAgainUptoRow, standIns := [], harness := (true, "7814ac63a2ac76ffb0b57afccbc5b7795bd19b697778d169a6d2bae0559d7ac3"), looks := false }, kinds := [], alts := [], laidByText := true, laidKinds := [.data, .pinned], laidTests := true, laidLooks := .later }
def CborAgainUptoCardSaid : Prop := Claim7.holds Tryd.pinned (.plain (OpenSpec.upto cborAgainSpec)) cborAgainUptoCard

/-- THE SECOND FORM's CARD OF 'heliographlaw07.CborTwo'. -/
def cborTwoUptoCard : Claim7 := { stood := { row := cborTwoUptoRow, standIns := [], harness := (true, "7814ac63a2ac76ffb0b57afccbc5b7795bd19b697778d169a6d2bae0559d7ac3"), looks := false }, kinds := [], alts := [], laidByText := true, laidKinds := [.data, .pinned], laidTests := true, laidLooks := .later }
def CborTwoUptoCardSaid : Prop := Claim7.holds Tryd.pinned (.plain (OpenSpec.upto cborTwoSpec)) cborTwoUptoCard
end Rows
end Go.Proofs.YtlelaenalbkbmaaDoor
