/-
  DERIVED. GIVEN WITH THE SEED: THE CARDS: each row of YtnlnejpioijkiaaGreatDoorRows.lean that lists a variable, with what it lists TIED to the program's text (the seventh form; the later family's looks); each row that meets fmt, with fmt's text TOLD by the authors' own Lean function (tested against real Go, not proved from fmt's source: count such statements apart). THE CARD IS WHAT COUNTS. Prove the row's statement (the work); the ties are given (YtnlnejpioijkiaaGreatDoorTie.lean); close each card by the builder's one call (the guide's Derived/Test/ToyasCard.lean, 'card_holds'). Laid BY PROGRAM, IN A SANDBOX (cutbox-door.mjs). By AI agents, Wed Nov 11 2026. No macro, syntax, notation, axiom, sorry.
-/
import Derived.Test.YtnlnejpioijkiaaGreatDoorRows
import GoSem.ClaimSeven
namespace Go.Proofs.YtnlnejpioijkiaaGreatDoor
namespace Rows

/-- THE TIED CARD OF 'sacristylaw10.ScopeTells'. -/
def scopeTellsCard : Claim7 := { stood := { row := scopeTellsRow, standIns := [], harness := (true, "a16dfb334da7b8c6b04c8fed73f7f7ee216e586d66ec1bde36ab80f05defd695"), looks := true }, kinds := [], alts := [], laidByText := true, laidKinds := [.handle], laidTests := true, laidLooks := .later }
def ScopeTellsCardSaid : Prop := Claim7.holds Tryz.pinned (.plain (OpenSpec.ofChange scopeTellsSpec)) scopeTellsCard

/-- THE SECOND FORM's CARD OF 'sacristylaw10.ScopeTells'. -/
def scopeTellsUptoCard : Claim7 := { stood := { row := scopeTellsUptoRow, standIns := [], harness := (true, "a16dfb334da7b8c6b04c8fed73f7f7ee216e586d66ec1bde36ab80f05defd695"), looks := true }, kinds := [], alts := [], laidByText := true, laidKinds := [.handle], laidTests := true, laidLooks := .later }
def ScopeTellsUptoCardSaid : Prop := Claim7.holds Tryz.pinned (.plain (OpenSpec.upto scopeTellsSpec)) scopeTellsUptoCard
end Rows
end Go.Proofs.YtnlnejpioijkiaaGreatDoor
