/-
  CodeKnown answers true: chapter 20's examples, and its numbers. A closed sentence: no input. Conditions: the listed package-level variables hold what the program's text lays (tied to the text by the card).
-/
import Derived.Test.YtkichddiobkchaaGreatDoorK3
set_option linter.unusedSectionVars false
set_option linter.unusedVariables false
set_option linter.unusedSimpArgs false
namespace Go.Proofs.YtkichddiobkchaaGreatDoor
open Go Go.ChangeShapes Go.WideShapes Go.ChangeAt Go.RowKit Go.Am
set_option maxRecDepth 100000
set_option maxHeartbeats 40000000
theorem codeKnown_name : Tryz.prog.funcNamed "tailrace/tailracelaw20.CodeKnown" = some 4 := by kernel_rfl
theorem codeKnown_card : Rows.CodeKnownCardSaid :=
  Claim7.holds_tied_plain_at .later [] [.data, .data, .widerDeep, .widerDeep, .data, .data, .data, .data, .data, .sentinel, .sentinel, .pinned, .pinned] true (true, "5c28310ee40e2d239852f33389ce4811e5116c693e487c4396496c6250a1ce61") true
    codeKnown_holds (fun _ h => by cases h) (by as_aux_lemma => kernel_rfl) (fun _ h => by cases h) codeKnown_row_tie rfl ⟨rfl, rfl⟩ (by as_aux_lemma => kernel_rfl) rfl
    (fun f fn hf hfn => by
      obtain rfl : f = 4 := Option.some.inj (codeKnown_name.symm.trans hf) |>.symm
      obtain rfl : fn = Tryz.f4 := (Option.some.inj (Tryz.func4.symm.trans hfn)).symm
      exact ⟨by as_aux_lemma => kernel_rfl, fun j t ht => by
        rw [Tryz.params4] at ht
        simp at ht⟩)
    (by as_aux_lemma => kernel_rfl)
#print axioms codeKnown_card
end Go.Proofs.YtkichddiobkchaaGreatDoor
