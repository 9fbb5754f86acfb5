/-
  DERIVED. GIVEN WITH THE SEED: THE CARDS: each row of YtgiomfnpkkdknaaGreatDoorRows.lean that lists a variable, with what it lists TIED to the program's text (the seventh form; the later family's looks); each row that meets fmt, with fmt's text TOLD by the authors' own Lean function (tested against real Go, not proved from fmt's source: count such statements apart). THE CARD IS WHAT COUNTS. Prove the row's statement (the work); the ties are given (YtgiomfnpkkdknaaGreatDoorTie.lean); close each card by the builder's one call (the guide's Derived/Test/ToyasCard.lean, 'card_holds'). Laid BY PROGRAM, IN A SANDBOX (cutbox-door.mjs). By AI agents, Wed Nov 11 2026. No macro, syntax, notation, axiom, sorry.
-/
import Derived.Test.YtgiomfnpkkdknaaGreatDoorRows
import GoSem.ClaimSeven
namespace Go.Proofs.YtgiomfnpkkdknaaGreatDoor
namespace Rows

/-- THE TIED CARD OF 'sacristylaw11.KindsNames'. -/
def kindsNamesCard : Claim7 := { stood := { row := kindsNamesRow, standIns := [], harness := (true, "7f6c163b6908de3d1b2709be3c4be9f478e893cac8f2eb548d1e6999b29bbbc5"), looks := true }, kinds := [], alts := [], laidByText := true, laidKinds := [.handle], laidTests := true, laidLooks := .later }
def KindsNamesCardSaid : Prop := Claim7.holds Tryz.pinned (.plain (OpenSpec.ofChange kindsNamesSpec)) kindsNamesCard

/-- THE TIED CARD OF 'sacristylaw12.LabelNames'. -/
def labelNamesCard : Claim7 := { stood := { row := labelNamesRow, standIns := [], harness := (true, "7f6c163b6908de3d1b2709be3c4be9f478e893cac8f2eb548d1e6999b29bbbc5"), looks := true }, kinds := [], alts := [], laidByText := true, laidKinds := [.handle], laidTests := true, laidLooks := .later }
def LabelNamesCardSaid : Prop := Claim7.holds Tryz.pinned (.plain (OpenSpec.ofChange labelNamesSpec)) labelNamesCard

/-- THE TIED CARD OF 'sacristylaw12.LabelNone'. -/
def labelNoneCard : Claim7 := { stood := { row := labelNoneRow, standIns := [], harness := (true, "7f6c163b6908de3d1b2709be3c4be9f478e893cac8f2eb548d1e6999b29bbbc5"), looks := true }, kinds := [], alts := [], laidByText := true, laidKinds := [.handle], laidTests := true, laidLooks := .later }
def LabelNoneCardSaid : Prop := Claim7.holds Tryz.pinned (.plain (OpenSpec.ofChange labelNoneSpec)) labelNoneCard

/-- THE TIED CARD OF 'sacristylaw13.BorrowNames'. -/
def borrowNamesCard : Claim7 := { stood := { row := borrowNamesRow, standIns := [], harness := (true, "7f6c163b6908de3d1b2709be3c4be9f478e893cac8f2eb548d1e6999b29bbbc5"), looks := true }, kinds := [], alts := [], laidByText := true, laidKinds := [.handle], laidTests := true, laidLooks := .later }
def BorrowNamesCardSaid : Prop := Claim7.holds Tryz.pinned (.plain (OpenSpec.ofChange borrowNamesSpec)) borrowNamesCard

/-- THE TIED CARD OF 'sacristylaw13.BorrowNone'. -/
def borrowNoneCard : Claim7 := { stood := { row := borrowNoneRow, standIns := [], harness := (true, "7f6c163b6908de3d1b2709be3c4be9f478e893cac8f2eb548d1e6999b29bbbc5"), looks := true }, kinds := [], alts := [], laidByText := true, laidKinds := [.handle], laidTests := true, laidLooks := .later }
def BorrowNoneCardSaid : Prop := Claim7.holds Tryz.pinned (.plain (OpenSpec.ofChange borrowNoneSpec)) borrowNoneCard

/-- THE TIED CARD OF 'sacristylaw14.MovesNames'. -/
def movesNamesCard : Claim7 := { stood := { row := movesNamesRow, standIns := [], harness := (true, "7f6c163b6908de3d1b2709be3c4be9f478e893cac8f2eb548d1e6999b29bbbc5"), looks := true }, kinds := [], alts := [], laidByText := true, laidKinds := [.handle], laidTests := true, laidLooks := .later }
def MovesNamesCardSaid : Prop := Claim7.holds Tryz.pinned (.plain (OpenSpec.ofChange movesNamesSpec)) movesNamesCard

/-- THE TIED CARD OF 'sacristylaw14.MovesNone'. -/
def movesNoneCard : Claim7 := { stood := { row := movesNoneRow, standIns := [], harness := (true, "7f6c163b6908de3d1b2709be3c4be9f478e893cac8f2eb548d1e6999b29bbbc5"), looks := true }, kinds := [], alts := [], laidByText := true, laidKinds := [.handle], laidTests := true, laidLooks := .later }
def MovesNoneCardSaid : Prop := Claim7.holds Tryz.pinned (.plain (OpenSpec.ofChange movesNoneSpec)) movesNoneCard

/-- THE SECOND FORM's CARD OF 'sacristylaw11.KindsNames'. -/
def kindsNamesUptoCard : Claim7 := { stood := { row := kindsNamesUptoRow, standIns := [], harness := (true, "7f6c163b6908de3d1b2709be3c4be9f478e893cac8f2eb548d1e6999b29bbbc5"), looks := true }, kinds := [], alts := [], laidByText := true, laidKinds := [.handle], laidTests := true, laidLooks := .later }
def KindsNamesUptoCardSaid : Prop := Claim7.holds Tryz.pinned (.plain (OpenSpec.upto kindsNamesSpec)) kindsNamesUptoCard

/-- THE SECOND FORM's CARD OF 'sacristylaw12.LabelNames'. -/
def labelNamesUptoCard : Claim7 := { stood := { row := labelNamesUptoRow, standIns := [], harness := (true, "7f6c163b6908de3d1b2709be3c4be9f478e893cac8f2eb548d1e6999b29bbbc5"), looks := true }, kinds := [], alts := [], laidByText := true, laidKinds := [.handle], laidTests := true, laidLooks := .later }
def LabelNamesUptoCardSaid : Prop := Claim7.holds Tryz.pinned (.plain (OpenSpec.upto labelNamesSpec)) labelNamesUptoCard

/-- THE SECOND FORM's CARD OF 'sacristylaw12.LabelNone'. -/
def labelNoneUptoCard : Claim7 := { stood := { row := labelNoneUptoRow, standIns := [], harness := (true, "7f6c163b6908de3d1b2709be3c4be9f478e893cac8f2eb548d1e6999b29bbbc5"), looks := true }, kinds := [], alts := [], laidByText := true, laidKinds := [.handle], laidTests := true, laidLooks := .later }
def LabelNoneUptoCardSaid : Prop := Claim7.holds Tryz.pinned (.plain (OpenSpec.upto labelNoneSpec)) labelNoneUptoCard

/-- THE SECOND FORM's CARD OF 'sacristylaw13.BorrowNames'. -/
def borrowNamesUptoCard : Claim7 := { stood := { row := borrowNamesUptoRow, standIns := [], harness := (true, "7f6c163b6908de3d1b2709be3c4be9f478e893cac8f2eb548d1e6999b29bbbc5"), looks := true }, kinds := [], alts := [], laidByText := true, laidKinds := [.handle], laidTests := true, laidLooks := .later }
def BorrowNamesUptoCardSaid : Prop := Claim7.holds Tryz.pinned (.plain (OpenSpec.upto borrowNamesSpec)) borrowNamesUptoCard

/-- THE SECOND FORM's CARD OF 'sacristylaw13.BorrowNone'. -/
def borrowNoneUptoCard : Claim7 := { stood := { row := borrowNoneUptoRow, standIns := [], harness := (true, "7f6c163b6908de3d1b2709be3c4be9f478e893cac8f2eb548d1e6999b29bbbc5"), looks := true }, kinds := [], alts := [], laidByText := true, laidKinds := [.handle], laidTests := true, laidLooks := .later }
def BorrowNoneUptoCardSaid : Prop := Claim7.holds Tryz.pinned (.plain (OpenSpec.upto borrowNoneSpec)) borrowNoneUptoCard

/-- THE SECOND FORM's CARD OF 'sacristylaw14.MovesNames'. -/
def movesNamesUptoCard : Claim7 := { stood := { row := movesNamesUptoRow, standIns := [], harness := (true, "7f6c163b6908de3d1b2709be3c4be9f478e893cac8f2eb548d1e6999b29bbbc5"), looks := true }, kinds := [], alts := [], laidByText := true, laidKinds := [.handle], laidTests := true, laidLooks := .later }
def MovesNamesUptoCardSaid : Prop := Claim7.holds Tryz.pinned (.plain (OpenSpec.upto movesNamesSpec)) movesNamesUptoCard

/-- THE SECOND FORM's CARD OF 'sacristylaw14.MovesNone'. -/
def movesNoneUptoCard : Claim7 := { stood := { row := movesNoneUptoRow, standIns := [], harness := (true, "7f6c163b6908de3d1b2709be3c4be9f478e893cac8f2eb548d1e6999b29bbbc5"), looks := true }, kinds := [], alts := [], laidByText := true, laidKinds := [.handle], laidTests := true, laidLooks := .later }
def MovesNoneUptoCardSaid : Prop := Claim7.holds Tryz.pinned (.plain (OpenSpec.upto movesNoneSpec)) movesNoneUptoCard
end Rows
end Go.Proofs.YtgiomfnpkkdknaaGreatDoor
