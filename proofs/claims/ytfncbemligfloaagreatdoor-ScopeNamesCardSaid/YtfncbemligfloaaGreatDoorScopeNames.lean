/- For every program that comes in, ScopeNames returns true and the program reads as it did; errors.errorType holds the handle of the type error (tied to the program's text); whatever the library's table of powers of ten holds. -/
import Derived.Test.YtfncbemligfloaaGreatDoorMg12
import Derived.Test.YtfncbemligfloaaGreatDoorTie
import Derived.Test.YtfncbemligfloaaGreatDoorCards
import Derived.SevenTiedAt
namespace Go.Proofs.YtfncbemligfloaaGreatDoor
open Go.RowKit
set_option linter.unusedVariables false
set_option linter.unusedSimpArgs false
set_option maxRecDepth 100000 in
theorem scopeNames_row_holds : Rows.ScopeNamesSaid :=
  OpenClaim.holds_of_wide 3 Tryz.f3 rfl rfl rfl rfl rfl rfl rfl ⟨rfl, rfl, rfl, rfl, rfl⟩ rfl rfl rfl rfl rfl (by kernel_rfl) Tryz.func3 (by kernel_rfl)
    (of_decide_eq_true (by kernel_rfl)) (by unfold Func.isWrapper; rw [if_neg (of_decide_eq_false (by kernel_rfl))]; exact ⟨rfl, rfl⟩)
    (fun os started H enc _ => names_lifted os started H enc)
set_option maxRecDepth 100000 in
theorem scopeNames_card_holds : Rows.ScopeNamesCardSaid :=
  Claim7.holds_tied_plain_at .later [] [.handle] true (true, "52e71ff4553923006b8e1329cf08b40edb2c1658b50dcc2c6e71e0847883a8a0") true
    scopeNames_row_holds (fun _ h => by cases h) (by kernel_rfl) (fun _ h => by cases h) scopeNames_row_tie rfl ⟨rfl, rfl⟩ (by kernel_rfl) rfl
    (fun f fn hf hfn => by
      obtain rfl : f = 3 := Option.some.inj ((show Tryz.prog.funcNamed "sacristy/sacristylaw10.ScopeNames" = some 3 by kernel_rfl).symm.trans hf) |>.symm
      obtain rfl : fn = Tryz.f3 := (Option.some.inj (Tryz.func3.symm.trans hfn)).symm
      exact ⟨by kernel_rfl, fun j t ht => by
        rw [Tryz.params3] at ht
        have h3 : t = 24 := by
          rcases j with _ | j
          · simpa using ht.symm
          · simp at ht
        subst h3
        exact (show Tryz.prog.wantsStandIn 24 = false by kernel_rfl)⟩)
    (by kernel_rfl)
#print axioms scopeNames_card_holds
end Go.Proofs.YtfncbemligfloaaGreatDoor
