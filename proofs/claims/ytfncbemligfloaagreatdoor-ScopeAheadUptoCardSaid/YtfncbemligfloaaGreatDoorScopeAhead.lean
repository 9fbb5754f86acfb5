/- For every program and all statements that come in, together of bulk at most 1048576, ScopeAhead returns true and the arguments read as they did; errors.errorType holds the handle of the type error (tied to the program's text); whatever the library's table of powers of ten holds. -/
import Derived.Test.YtfncbemligfloaaGreatDoorMg14
import Derived.Test.YtfncbemligfloaaGreatDoorTie
import Derived.Test.YtfncbemligfloaaGreatDoorCards
import Derived.SevenTiedAt
namespace Go.Proofs.YtfncbemligfloaaGreatDoor
open Go.RowKit
set_option linter.unusedVariables false
set_option linter.unusedSimpArgs false
set_option maxRecDepth 100000 in
theorem scopeAhead_row_holds : Rows.ScopeAheadUptoSaid :=
  OpenClaim.holds_of_cond 4 Tryz.f4 rfl rfl rfl rfl rfl rfl rfl ⟨rfl, rfl, rfl, rfl, rfl⟩ rfl rfl rfl rfl rfl (by kernel_rfl) Tryz.func4 (by kernel_rfl)
    (of_decide_eq_true (by kernel_rfl)) (by unfold Func.isWrapper; rw [if_neg (of_decide_eq_false (by kernel_rfl))]; exact ⟨rfl, rfl⟩)
    (fun os started H enc _ F => by rw [OpenClaim.pre_eq_preRow]; exact ahead_lifted os started H enc F)
set_option maxRecDepth 100000 in
theorem scopeAhead_card_holds : Rows.ScopeAheadUptoCardSaid :=
  Claim7.holds_tied_plain_at .later [] _ _ _ _
    scopeAhead_row_holds (fun _ h => by cases h) (by kernel_rfl) (fun _ h => by cases h) scopeAheadUpto_row_tie rfl ⟨rfl, rfl⟩ (by kernel_rfl) rfl
    (fun f fn hf hfn => by
      obtain rfl : f = 4 := Option.some.inj ((show Tryz.prog.funcNamed "sacristy/sacristylaw10.ScopeAhead" = some 4 by kernel_rfl).symm.trans hf) |>.symm
      obtain rfl : fn = Tryz.f4 := (Option.some.inj (Tryz.func4.symm.trans hfn)).symm
      exact ⟨by kernel_rfl, fun j t ht => by
        rw [Tryz.params4] at ht
        have h3 : t = 24 ∨ t = 32 := by
          rcases j with _ | _ | j
          · exact .inl (by simpa using ht.symm)
          · exact .inr (by simpa using ht.symm)
          · simp at ht
        rcases h3 with rfl | rfl
        · exact (show Tryz.prog.wantsStandIn 24 = false by kernel_rfl)
        · exact (show Tryz.prog.wantsStandIn 32 = false by kernel_rfl)⟩)
    (by kernel_rfl)
#print axioms scopeAhead_card_holds
end Go.Proofs.YtfncbemligfloaaGreatDoor
