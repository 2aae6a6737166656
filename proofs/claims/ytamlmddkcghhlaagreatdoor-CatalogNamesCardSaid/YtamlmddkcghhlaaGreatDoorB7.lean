/-
  CatalogNames: the row's closed facts.
-/
import Derived.Test.YtamlmddkcghhlaaGreatDoorB6
set_option linter.unusedSimpArgs false
set_option linter.unusedVariables false
namespace Go.Proofs.YtamlmddkcghhlaaGreatDoor
set_option maxRecDepth 100000
open Go
set_option maxHeartbeats 0 in
theorem names_facts : joinedFacts Tryz.checked.prog 3 Tryz.f3 Rows.catalogNamesSpec Rows.catalogNamesRow = true := by
  unfold joinedFacts
  repeat' (with_reducible refine Bool.and_eq_true_iff.2 ⟨?_, ?_⟩)
  all_goals (as_aux_lemma => kernel_rfl)
end Go.Proofs.YtamlmddkcghhlaaGreatDoor
