/-
  PROVED: laws.FnExactProgShift (what the program answers when it shifts a coded problem is what the reference answers): for every input the law returns true, and its arguments and the package variable read behind the call as they read before.
  CONDITIONS: the package variables hold what the text of the program lays in them (the given card ties them). No other condition.
-/
import Derived.Test.YtbahacapnaohcaaGreatDoorR7
set_option linter.unusedVariables false
set_option linter.unusedSimpArgs false
namespace Go.Proofs.YtbahacapnaohcaaGreatDoor
open Go
theorem fnExactProgShift_card:Rows.FnExactProgShiftCardSaid:=
 Claim7.holds_tied_plain_at .later [] _ _ _ _ fnExactProgShift.said (fun _ h=>by cases h) (by as_aux_lemma=>kernel_rfl) (fun _ h=>by cases h) fnExactProgShift_row_tie rfl ⟨rfl,rfl⟩ (by as_aux_lemma=>kernel_rfl) rfl fnExactProgShift.plain (by as_aux_lemma=>kernel_rfl)
#print axioms fnExactProgShift_card
end Go.Proofs.YtbahacapnaohcaaGreatDoor
