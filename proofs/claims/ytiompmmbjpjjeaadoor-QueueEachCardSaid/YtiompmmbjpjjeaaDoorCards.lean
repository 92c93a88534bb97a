/-
  DERIVED. GIVEN WITH THE SEED: THE CARDS: each row of YtiompmmbjpjjeaaDoorRows.lean that lists a variable, with what it lists TIED to the program's text (the seventh form; the later family's looks); each row that meets fmt, with fmt's text TOLD by the authors' own Lean function (tested against real Go, not proved from fmt's source: count such statements apart). THE CARD IS WHAT COUNTS. Prove the row's statement (the work); the ties are given (YtiompmmbjpjjeaaDoorTie.lean); close each card by the builder's one call (the guide's Derived/Test/ToyasCard.lean, 'card_holds'). Laid BY PROGRAM, IN A SANDBOX (cutbox-door.mjs). By AI agents, Wed Nov 11 2026. No macro, syntax, notation, axiom, sorry.
-/
import Derived.Test.YtiompmmbjpjjeaaDoorRows
import GoSem.ClaimSeven
namespace Go.Proofs.YtiompmmbjpjjeaaDoor
namespace Rows

/-- THE TIED CARD OF 'heliographlaw20.QueueFirst'. -/
def queueFirstCard : Claim7 := { stood := { row := queueFirstRow, standIns := [], harness := (true, "13ba4ca5a6da681b8f4ca7c68c6ea7e43d6b99dbcc411ccda2eeaf7aa1f31b2d"), looks := false }, kinds := [], alts := [], laidByText := true, laidKinds := [.data, .pinned], laidTests := true, laidLooks := .later }
def QueueFirstCardSaid : Prop := Claim7.holds Tryd.pinned (.plain (OpenSpec.ofChange queueFirstSpec)) queueFirstCard

/-- THE TIED CARD OF 'heliographlaw20.QueueRoom'. -/
def queueRoomCard : Claim7 := { stood := { row := queueRoomRow, standIns := [], harness := (true, "13ba4ca5a6da681b8f4ca7c68c6ea7e43d6b99dbcc411ccda2eeaf7aa1f31b2d"), looks := false }, kinds := [], alts := [], laidByText := true, laidKinds := [.data, .pinned], laidTests := true, laidLooks := .later }
def QueueRoomCardSaid : Prop := Claim7.holds Tryd.pinned (.plain (OpenSpec.ofChange queueRoomSpec)) queueRoomCard

/-- THE TIED CARD OF 'heliographlaw20.QueueSpends'. -/
def queueSpendsCard : Claim7 := { stood := { row := queueSpendsRow, standIns := [], harness := (true, "13ba4ca5a6da681b8f4ca7c68c6ea7e43d6b99dbcc411ccda2eeaf7aa1f31b2d"), looks := false }, kinds := [], alts := [], laidByText := true, laidKinds := [.data, .pinned], laidTests := true, laidLooks := .later }
def QueueSpendsCardSaid : Prop := Claim7.holds Tryd.pinned (.plain (OpenSpec.ofChange queueSpendsSpec)) queueSpendsCard

/-- THE TIED CARD OF 'heliographlaw20.QueueEach'. -/
def queueEachCard : Claim7 := { stood := { row := queueEachRow, standIns := [], harness := (true, "13ba4ca5a6da681b8f4ca7c68c6ea7e43d6b99dbcc411ccda2eeaf7aa1f31b2d"), looks := false }, kinds := [], alts := [], laidByText := true, laidKinds := [.data, .pinned], laidTests := true, laidLooks := .later }
def QueueEachCardSaid : Prop := Claim7.holds Tryd.pinned (.plain (OpenSpec.ofChange queueEachSpec)) queueEachCard

/-- THE TIED CARD OF 'heliographlaw20.QueueSame'. -/
def queueSameCard : Claim7 := { stood := { row := queueSameRow, standIns := [], harness := (true, "13ba4ca5a6da681b8f4ca7c68c6ea7e43d6b99dbcc411ccda2eeaf7aa1f31b2d"), looks := false }, kinds := [], alts := [], laidByText := true, laidKinds := [.data, .pinned], laidTests := true, laidLooks := .later }
def QueueSameCardSaid : Prop := Claim7.holds Tryd.pinned (.plain (OpenSpec.ofChange queueSameSpec)) queueSameCard

/-- THE SECOND FORM's CARD OF 'heliographlaw20.QueueFirst'. -/
def queueFirstUptoCard : Claim7 := { stood := { row := queueFirstUptoRow, standIns := [], harness := (true, "13ba4ca5a6da681b8f4ca7c68c6ea7e43d6b99dbcc411ccda2eeaf7aa1f31b2d"), looks := false }, kinds := [], alts := [], laidByText := true, laidKinds := [.data, .pinned], laidTests := true, laidLooks := .later }
def QueueFirstUptoCardSaid : Prop := Claim7.holds Tryd.pinned (.plain (OpenSpec.upto queueFirstSpec)) queueFirstUptoCard

/-- THE SECOND FORM's CARD OF 'heliographlaw20.QueueRoom'. -/
def queueRoomUptoCard : Claim7 := { stood := { row := queueRoomUptoRow, standIns := [], harness := (true, "13ba4ca5a6da681b8f4ca7c68c6ea7e43d6b99dbcc411ccda2eeaf7aa1f31b2d"), looks := false }, kinds := [], alts := [], laidByText := true, laidKinds := [.data, .pinned], laidTests := true, laidLooks := .later }
def QueueRoomUptoCardSaid : Prop := Claim7.holds Tryd.pinned (.plain (OpenSpec.upto queueRoomSpec)) queueRoomUptoCard

/-- THE SECOND FORM's CARD OF 'heliographlaw20.QueueSpends'. -/
def queueSpendsUptoCard : Claim7 := { stood := { row := queueSpendsUptoRow, standIns := [], harness := (true, "13ba4ca5a6da681b8f4ca7c68c6ea7e43d6b99dbcc411ccda2eeaf7aa1f31b2d"), looks := false }, kinds := [], alts := [], laidByText := true, laidKinds := [.data, .pinned], laidTests := true, laidLooks := .later }
def QueueSpendsUptoCardSaid : Prop := Claim7.holds Tryd.pinned (.plain (OpenSpec.upto queueSpendsSpec)) queueSpendsUptoCard

/-- THE SECOND FORM's CARD OF 'heliographlaw20.QueueEach'. -/
def queueEachUptoCard : Claim7 := { stood := { row := queueEachUptoRow, standIns := [], harness := (true, "13ba4ca5a6da681b8f4ca7c68c6ea7e43d6b99dbcc411ccda2eeaf7aa1f31b2d"), looks := false }, kinds := [], alts := [], laidByText := true, laidKinds := [.data, .pinned], laidTests := true, laidLooks := .later }
def QueueEachUptoCardSaid : Prop := Claim7.holds Tryd.pinned (.plain (OpenSpec.upto queueEachSpec)) queueEachUptoCard

/-- THE SECOND FORM's CARD OF 'heliographlaw20.QueueSame'. -/
def queueSameUptoCard : Claim7 := { stood := { row := queueSameUptoRow, standIns := [], harness := (true, "13ba4ca5a6da681b8f4ca7c68c6ea7e43d6b99dbcc411ccda2eeaf7aa1f31b2d"), looks := false }, kinds := [], alts := [], laidByText := true, laidKinds := [.data, .pinned], laidTests := true, laidLooks := .later }
def QueueSameUptoCardSaid : Prop := Claim7.holds Tryd.pinned (.plain (OpenSpec.upto queueSameSpec)) queueSameUptoCard
end Rows
end Go.Proofs.YtiompmmbjpjjeaaDoor
