/-
  DERIVED. GIVEN WITH THE SEED: THE CARDS: each row of YtfncbemligfloaaGreatDoorRows.lean that lists a variable, with what it lists TIED to the program's text (the seventh form; the later family's looks); each row that meets fmt, with fmt's text TOLD by the authors' own Lean function (tested against real Go, not proved from fmt's source: count such statements apart). THE CARD IS WHAT COUNTS. Prove the row's statement (the work); the ties are given (YtfncbemligfloaaGreatDoorTie.lean); close each card by the builder's one call (the guide's Derived/Test/ToyasCard.lean, 'card_holds'). Laid BY PROGRAM, IN A SANDBOX (cutbox-door.mjs). By AI agents, Wed Nov 11 2026. No macro, syntax, notation, axiom, sorry.
-/
import Derived.Test.YtfncbemligfloaaGreatDoorRows
import GoSem.ClaimSeven
namespace Go.Proofs.YtfncbemligfloaaGreatDoor
namespace Rows

/-- THE TIED CARD OF 'sacristylaw10.ScopeNames'. -/
def scopeNamesCard : Claim7 := { stood := { row := scopeNamesRow, standIns := [], harness := (true, "52e71ff4553923006b8e1329cf08b40edb2c1658b50dcc2c6e71e0847883a8a0"), looks := true }, kinds := [], alts := [], laidByText := true, laidKinds := [.handle], laidTests := true, laidLooks := .later }
def ScopeNamesCardSaid : Prop := Claim7.holds Tryz.pinned (.plain (OpenSpec.ofChange scopeNamesSpec)) scopeNamesCard

/-- THE TIED CARD OF 'sacristylaw10.ScopeAhead'. -/
def scopeAheadCard : Claim7 := { stood := { row := scopeAheadRow, standIns := [], harness := (true, "52e71ff4553923006b8e1329cf08b40edb2c1658b50dcc2c6e71e0847883a8a0"), looks := true }, kinds := [], alts := [], laidByText := true, laidKinds := [.handle], laidTests := true, laidLooks := .later }
def ScopeAheadCardSaid : Prop := Claim7.holds Tryz.pinned (.plain (OpenSpec.ofChange scopeAheadSpec)) scopeAheadCard

/-- THE TIED CARD OF 'sacristylaw10.ScopeFresh'. -/
def scopeFreshCard : Claim7 := { stood := { row := scopeFreshRow, standIns := [], harness := (true, "52e71ff4553923006b8e1329cf08b40edb2c1658b50dcc2c6e71e0847883a8a0"), looks := true }, kinds := [], alts := [], laidByText := true, laidKinds := [.handle], laidTests := true, laidLooks := .later }
def ScopeFreshCardSaid : Prop := Claim7.holds Tryz.pinned (.plain (OpenSpec.ofChange scopeFreshSpec)) scopeFreshCard

/-- THE SECOND FORM's CARD OF 'sacristylaw10.ScopeNames'. -/
def scopeNamesUptoCard : Claim7 := { stood := { row := scopeNamesUptoRow, standIns := [], harness := (true, "52e71ff4553923006b8e1329cf08b40edb2c1658b50dcc2c6e71e0847883a8a0"), looks := true }, kinds := [], alts := [], laidByText := true, laidKinds := [.handle], laidTests := true, laidLooks := .later }
def ScopeNamesUptoCardSaid : Prop := Claim7.holds Tryz.pinned (.plain (OpenSpec.upto scopeNamesSpec)) scopeNamesUptoCard

/-- THE SECOND FORM's CARD OF 'sacristylaw10.ScopeAhead'. -/
def scopeAheadUptoCard : Claim7 := { stood := { row := scopeAheadUptoRow, standIns := [], harness := (true, "52e71ff4553923006b8e1329cf08b40edb2c1658b50dcc2c6e71e0847883a8a0"), looks := true }, kinds := [], alts := [], laidByText := true, laidKinds := [.handle], laidTests := true, laidLooks := .later }
def ScopeAheadUptoCardSaid : Prop := Claim7.holds Tryz.pinned (.plain (OpenSpec.upto scopeAheadSpec)) scopeAheadUptoCard

/-- THE SECOND FORM's CARD OF 'sacristylaw10.ScopeFresh'. -/
def scopeFreshUptoCard : Claim7 := { stood := { row := scopeFreshUptoRow, standIns := [], harness := (true, "52e71ff4553923006b8e1329cf08b40edb2c1658b50dcc2c6e71e0847883a8a0"), looks := true }, kinds := [], alts := [], laidByText := true, laidKinds := [.handle], laidTests := true, laidLooks := .later }
def ScopeFreshUptoCardSaid : Prop := Claim7.holds Tryz.pinned (.plain (OpenSpec.upto scopeFreshSpec)) scopeFreshUptoCard
end Rows
end Go.Proofs.YtfncbemligfloaaGreatDoor
