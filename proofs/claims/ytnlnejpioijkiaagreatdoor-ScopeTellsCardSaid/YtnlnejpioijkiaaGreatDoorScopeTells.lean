/- ScopeTells answers true for every program that comes in, and leaves it as it was; conditions: those of the row, of which the variable errors.errorType is tied to the text of the program. -/
import Derived.Test.YtnlnejpioijkiaaGreatDoorMg14
import Derived.Test.YtnlnejpioijkiaaGreatDoorTie
import Derived.Test.YtnlnejpioijkiaaGreatDoorCards
import Derived.SevenTiedAt
namespace Go.Proofs.YtnlnejpioijkiaaGreatDoor
open Go.RowKit
set_option linter.unusedVariables false
set_option linter.unusedSimpArgs false
set_option maxRecDepth 100000 in
theorem scopeTells_row_holds : Rows.ScopeTellsSaid :=
  OpenClaim.holds_of_wide 3 Tryz.f3 rfl rfl rfl rfl rfl rfl rfl ⟨rfl, rfl, rfl, rfl, rfl⟩ rfl rfl rfl rfl rfl (by kernel_rfl) Tryz.func3 (by kernel_rfl)
    (of_decide_eq_true (by kernel_rfl)) (by unfold Func.isWrapper; rw [if_neg (of_decide_eq_false (by kernel_rfl))]; exact ⟨rfl, rfl⟩)
    (fun os started H enc _ => law_lifted os started H enc)
set_option maxRecDepth 100000 in
theorem scopeTells_card_holds : Rows.ScopeTellsCardSaid :=
  Claim7.holds_tied_plain_at .later [] [.handle] true (true, "a16dfb334da7b8c6b04c8fed73f7f7ee216e586d66ec1bde36ab80f05defd695") true
    scopeTells_row_holds (fun _ h => by cases h) (by kernel_rfl) (fun _ h => by cases h) scopeTells_row_tie rfl ⟨rfl, rfl⟩ (by kernel_rfl) rfl
    (fun f fn hf hfn => by
      obtain rfl : f = 3 := Option.some.inj ((show Tryz.prog.funcNamed "sacristy/sacristylaw10.ScopeTells" = some 3 by kernel_rfl).symm.trans hf) |>.symm
      obtain rfl : fn = Tryz.f3 := (Option.some.inj (Tryz.func3.symm.trans hfn)).symm
      exact ⟨by kernel_rfl, fun j t ht => by
        rw [Tryz.params3] at ht
        have h3 : t = 24 := by
          rcases j with _ | j
          · simpa using ht.symm
          · simp at ht
        subst h3
        exact (show Tryz.prog.wantsStandIn 24 = false by kernel_rfl)⟩)
    (by kernel_rfl)
#print axioms scopeTells_card_holds
end Go.Proofs.YtnlnejpioijkiaaGreatDoor
