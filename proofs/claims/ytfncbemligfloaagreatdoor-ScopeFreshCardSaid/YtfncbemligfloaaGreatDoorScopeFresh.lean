/- For every program that comes in, every number and every name, ScopeFresh returns true and the arguments read as they did; errors.errorType holds the handle of the type error (tied to the program's text); whatever the library's table of powers of ten holds. -/
import Derived.Test.YtfncbemligfloaaGreatDoorMg14
import Derived.Test.YtfncbemligfloaaGreatDoorTie
import Derived.Test.YtfncbemligfloaaGreatDoorCards
import Derived.SevenTiedAt
namespace Go.Proofs.YtfncbemligfloaaGreatDoor
open Go.RowKit
set_option linter.unusedVariables false
set_option linter.unusedSimpArgs false
set_option maxRecDepth 100000 in
theorem scopeFresh_row_holds : Rows.ScopeFreshSaid :=
  OpenClaim.holds_of_wide 5 Tryz.f5 rfl rfl rfl rfl rfl rfl rfl ⟨rfl, rfl, rfl, rfl, rfl⟩ rfl rfl rfl rfl rfl (by kernel_rfl) Tryz.func5 (by kernel_rfl)
    (of_decide_eq_true (by kernel_rfl)) (by unfold Func.isWrapper; rw [if_neg (of_decide_eq_false (by kernel_rfl))]; exact ⟨rfl, rfl⟩)
    (fun os started H enc _ => fresh_lifted os started H enc)
set_option maxRecDepth 100000 in
theorem scopeFresh_card_holds : Rows.ScopeFreshCardSaid :=
  Claim7.holds_tied_plain_at .later [] [.handle] true (true, "52e71ff4553923006b8e1329cf08b40edb2c1658b50dcc2c6e71e0847883a8a0") true
    scopeFresh_row_holds (fun _ h => by cases h) (by kernel_rfl) (fun _ h => by cases h) scopeFresh_row_tie rfl ⟨rfl, rfl⟩ (by kernel_rfl) rfl
    (fun f fn hf hfn => by
      obtain rfl : f = 5 := Option.some.inj ((show Tryz.prog.funcNamed "sacristy/sacristylaw10.ScopeFresh" = some 5 by kernel_rfl).symm.trans hf) |>.symm
      obtain rfl : fn = Tryz.f5 := (Option.some.inj (Tryz.func5.symm.trans hfn)).symm
      exact ⟨by kernel_rfl, fun j t ht => by
        rw [Tryz.params5] at ht
        have h3 : t = 24 ∨ t = 5 ∨ t = 9 := by
          rcases j with _ | _ | _ | j
          · exact .inl (by simpa using ht.symm)
          · exact .inr (.inl (by simpa using ht.symm))
          · exact .inr (.inr (by simpa using ht.symm))
          · simp at ht
        rcases h3 with rfl | rfl | rfl
        · exact (show Tryz.prog.wantsStandIn 24 = false by kernel_rfl)
        · exact (show Tryz.prog.wantsStandIn 5 = false by kernel_rfl)
        · exact (show Tryz.prog.wantsStandIn 9 = false by kernel_rfl)⟩)
    (by kernel_rfl)
#print axioms scopeFresh_card_holds
end Go.Proofs.YtfncbemligfloaaGreatDoor
