/-
  DERIVED. GIVEN WITH THE SEED: THE CARDS: each row of YtpkpgmnbheenbaaGreatDoorRows.lean that lists a variable, with what it lists TIED to the program's text (the seventh form; the later family's looks); each row that meets fmt, with fmt's text TOLD by the authors' own Lean function (tested against real Go, not proved from fmt's source: count such statements apart). THE CARD IS WHAT COUNTS. Prove the row's statement (the work); the ties are given (YtpkpgmnbheenbaaGreatDoorTie.lean); close each card by the builder's one call (the guide's Derived/Test/ToyasCard.lean, 'card_holds'). Laid BY PROGRAM, IN A SANDBOX (cutbox-door.mjs). By AI agents, Wed Nov 11 2026. No macro, syntax, notation, axiom, sorry.
-/
import Derived.Test.YtpkpgmnbheenbaaGreatDoorRows
import GoSem.ClaimSeven
namespace Go.Proofs.YtpkpgmnbheenbaaGreatDoor
namespace Rows

/-- THE TIED CARD OF 'sacristylaw11.KindsTells'. -/
def kindsTellsCard : Claim7 := { stood := { row := kindsTellsRow, standIns := [], harness := (true, "0ae2bf723f1d24751efb88161dc2fe8c8504fb71dda75bd1ab4d1dcbc08523ed"), looks := true }, kinds := [], alts := [], laidByText := true, laidKinds := [.handle], laidTests := true, laidLooks := .later }
def KindsTellsCardSaid : Prop := Claim7.holds Tryz.pinned (.plain (OpenSpec.ofChange kindsTellsSpec)) kindsTellsCard

/-- THE TIED CARD OF 'sacristylaw11.KindsCalls'. -/
def kindsCallsCard : Claim7 := { stood := { row := kindsCallsRow, standIns := [], harness := (true, "0ae2bf723f1d24751efb88161dc2fe8c8504fb71dda75bd1ab4d1dcbc08523ed"), looks := true }, kinds := [], alts := [], laidByText := true, laidKinds := [.handle], laidTests := true, laidLooks := .later }
def KindsCallsCardSaid : Prop := Claim7.holds Tryz.pinned (.plain (OpenSpec.ofChange kindsCallsSpec)) kindsCallsCard

/-- THE TIED CARD OF 'sacristylaw11.KindsLent'. -/
def kindsLentCard : Claim7 := { stood := { row := kindsLentRow, standIns := [], harness := (true, "0ae2bf723f1d24751efb88161dc2fe8c8504fb71dda75bd1ab4d1dcbc08523ed"), looks := true }, kinds := [], alts := [], laidByText := true, laidKinds := [.handle], laidTests := true, laidLooks := .later }
def KindsLentCardSaid : Prop := Claim7.holds Tryz.pinned (.plain (OpenSpec.ofChange kindsLentSpec)) kindsLentCard

/-- THE TIED CARD OF 'sacristylaw12.LabelTells'. -/
def labelTellsCard : Claim7 := { stood := { row := labelTellsRow, standIns := [], harness := (true, "0ae2bf723f1d24751efb88161dc2fe8c8504fb71dda75bd1ab4d1dcbc08523ed"), looks := true }, kinds := [], alts := [], laidByText := true, laidKinds := [.handle], laidTests := true, laidLooks := .later }
def LabelTellsCardSaid : Prop := Claim7.holds Tryz.pinned (.plain (OpenSpec.ofChange labelTellsSpec)) labelTellsCard

/-- THE TIED CARD OF 'sacristylaw13.BorrowTells'. -/
def borrowTellsCard : Claim7 := { stood := { row := borrowTellsRow, standIns := [], harness := (true, "0ae2bf723f1d24751efb88161dc2fe8c8504fb71dda75bd1ab4d1dcbc08523ed"), looks := true }, kinds := [], alts := [], laidByText := true, laidKinds := [.handle], laidTests := true, laidLooks := .later }
def BorrowTellsCardSaid : Prop := Claim7.holds Tryz.pinned (.plain (OpenSpec.ofChange borrowTellsSpec)) borrowTellsCard

/-- THE TIED CARD OF 'sacristylaw13.BorrowWithin'. -/
def borrowWithinCard : Claim7 := { stood := { row := borrowWithinRow, standIns := [], harness := (true, "0ae2bf723f1d24751efb88161dc2fe8c8504fb71dda75bd1ab4d1dcbc08523ed"), looks := true }, kinds := [], alts := [], laidByText := true, laidKinds := [.handle], laidTests := true, laidLooks := .later }
def BorrowWithinCardSaid : Prop := Claim7.holds Tryz.pinned (.plain (OpenSpec.ofChange borrowWithinSpec)) borrowWithinCard

/-- THE TIED CARD OF 'sacristylaw14.MovesTells'. -/
def movesTellsCard : Claim7 := { stood := { row := movesTellsRow, standIns := [], harness := (true, "0ae2bf723f1d24751efb88161dc2fe8c8504fb71dda75bd1ab4d1dcbc08523ed"), looks := true }, kinds := [], alts := [], laidByText := true, laidKinds := [.handle], laidTests := true, laidLooks := .later }
def MovesTellsCardSaid : Prop := Claim7.holds Tryz.pinned (.plain (OpenSpec.ofChange movesTellsSpec)) movesTellsCard

/-- THE TIED CARD OF 'sacristylaw14.MovesGone'. -/
def movesGoneCard : Claim7 := { stood := { row := movesGoneRow, standIns := [], harness := (true, "0ae2bf723f1d24751efb88161dc2fe8c8504fb71dda75bd1ab4d1dcbc08523ed"), looks := true }, kinds := [], alts := [], laidByText := true, laidKinds := [.handle], laidTests := true, laidLooks := .later }
def MovesGoneCardSaid : Prop := Claim7.holds Tryz.pinned (.plain (OpenSpec.ofChange movesGoneSpec)) movesGoneCard

/-- THE TIED CARD OF 'sacristylaw12.LabelKeeps'. -/
def labelKeepsCard : Claim7 := { stood := { row := labelKeepsRow, standIns := [], harness := (true, "0ae2bf723f1d24751efb88161dc2fe8c8504fb71dda75bd1ab4d1dcbc08523ed"), looks := true }, kinds := [], alts := [], laidByText := true, laidKinds := [.handle], laidTests := true, laidLooks := .later }
def LabelKeepsCardSaid : Prop := Claim7.holds Tryz.pinned (.plain (OpenSpec.ofChange labelKeepsSpec)) labelKeepsCard

/-- THE SECOND FORM's CARD OF 'sacristylaw11.KindsTells'. -/
def kindsTellsUptoCard : Claim7 := { stood := { row := kindsTellsUptoRow, standIns := [], harness := (true, "0ae2bf723f1d24751efb88161dc2fe8c8504fb71dda75bd1ab4d1dcbc08523ed"), looks := true }, kinds := [], alts := [], laidByText := true, laidKinds := [.handle], laidTests := true, laidLooks := .later }
def KindsTellsUptoCardSaid : Prop := Claim7.holds Tryz.pinned (.plain (OpenSpec.upto kindsTellsSpec)) kindsTellsUptoCard

/-- THE SECOND FORM's CARD OF 'sacristylaw11.KindsCalls'. -/
def kindsCallsUptoCard : Claim7 := { stood := { row := kindsCallsUptoRow, standIns := [], harness := (true, "0ae2bf723f1d24751efb88161dc2fe8c8504fb71dda75bd1ab4d1dcbc08523ed"), looks := true }, kinds := [], alts := [], laidByText := true, laidKinds := [.handle], laidTests := true, laidLooks := .later }
def KindsCallsUptoCardSaid : Prop := Claim7.holds Tryz.pinned (.plain (OpenSpec.upto kindsCallsSpec)) kindsCallsUptoCard

/-- THE SECOND FORM's CARD OF 'sacristylaw11.KindsLent'. -/
def kindsLentUptoCard : Claim7 := { stood := { row := kindsLentUptoRow, standIns := [], harness := (true, "0ae2bf723f1d24751efb88161dc2fe8c8504fb71dda75bd1ab4d1dcbc08523ed"), looks := true }, kinds := [], alts := [], laidByText := true, laidKinds := [.handle], laidTests := true, laidLooks := .later }
def KindsLentUptoCardSaid : Prop := Claim7.holds Tryz.pinned (.plain (OpenSpec.upto kindsLentSpec)) kindsLentUptoCard

/-- THE SECOND FORM's CARD OF 'sacristylaw12.LabelTells'. -/
def labelTellsUptoCard : Claim7 := { stood := { row := labelTellsUptoRow, standIns := [], harness := (true, "0ae2bf723f1d24751efb88161dc2fe8c8504fb71dda75bd1ab4d1dcbc08523ed"), looks := true }, kinds := [], alts := [], laidByText := true, laidKinds := [.handle], laidTests := true, laidLooks := .later }
def LabelTellsUptoCardSaid : Prop := Claim7.holds Tryz.pinned (.plain (OpenSpec.upto labelTellsSpec)) labelTellsUptoCard

/-- THE SECOND FORM's CARD OF 'sacristylaw13.BorrowTells'. -/
def borrowTellsUptoCard : Claim7 := { stood := { row := borrowTellsUptoRow, standIns := [], harness := (true, "0ae2bf723f1d24751efb88161dc2fe8c8504fb71dda75bd1ab4d1dcbc08523ed"), looks := true }, kinds := [], alts := [], laidByText := true, laidKinds := [.handle], laidTests := true, laidLooks := .later }
def BorrowTellsUptoCardSaid : Prop := Claim7.holds Tryz.pinned (.plain (OpenSpec.upto borrowTellsSpec)) borrowTellsUptoCard

/-- THE SECOND FORM's CARD OF 'sacristylaw13.BorrowWithin'. -/
def borrowWithinUptoCard : Claim7 := { stood := { row := borrowWithinUptoRow, standIns := [], harness := (true, "0ae2bf723f1d24751efb88161dc2fe8c8504fb71dda75bd1ab4d1dcbc08523ed"), looks := true }, kinds := [], alts := [], laidByText := true, laidKinds := [.handle], laidTests := true, laidLooks := .later }
def BorrowWithinUptoCardSaid : Prop := Claim7.holds Tryz.pinned (.plain (OpenSpec.upto borrowWithinSpec)) borrowWithinUptoCard

/-- THE SECOND FORM's CARD OF 'sacristylaw14.MovesTells'. -/
def movesTellsUptoCard : Claim7 := { stood := { row := movesTellsUptoRow, standIns := [], harness := (true, "0ae2bf723f1d24751efb88161dc2fe8c8504fb71dda75bd1ab4d1dcbc08523ed"), looks := true }, kinds := [], alts := [], laidByText := true, laidKinds := [.handle], laidTests := true, laidLooks := .later }
def MovesTellsUptoCardSaid : Prop := Claim7.holds Tryz.pinned (.plain (OpenSpec.upto movesTellsSpec)) movesTellsUptoCard

/-- THE SECOND FORM's CARD OF 'sacristylaw14.MovesGone'. -/
def movesGoneUptoCard : Claim7 := { stood := { row := movesGoneUptoRow, standIns := [], harness := (true, "0ae2bf723f1d24751efb88161dc2fe8c8504fb71dda75bd1ab4d1dcbc08523ed"), looks := true }, kinds := [], alts := [], laidByText := true, laidKinds := [.handle], laidTests := true, laidLooks := .later }
def MovesGoneUptoCardSaid : Prop := Claim7.holds Tryz.pinned (.plain (OpenSpec.upto movesGoneSpec)) movesGoneUptoCard

/-- THE SECOND FORM's CARD OF 'sacristylaw12.LabelKeeps'. -/
def labelKeepsUptoCard : Claim7 := { stood := { row := labelKeepsUptoRow, standIns := [], harness := (true, "0ae2bf723f1d24751efb88161dc2fe8c8504fb71dda75bd1ab4d1dcbc08523ed"), looks := true }, kinds := [], alts := [], laidByText := true, laidKinds := [.handle], laidTests := true, laidLooks := .later }
def LabelKeepsUptoCardSaid : Prop := Claim7.holds Tryz.pinned (.plain (OpenSpec.upto labelKeepsSpec)) labelKeepsUptoCard
end Rows
end Go.Proofs.YtpkpgmnbheenbaaGreatDoor
