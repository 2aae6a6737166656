/-
  CatalogNames: the tied card: for every name, collection and place the call returns true and leaves its arguments as they were (the package's variables as the program's text lays them).
-/
import Derived.Test.YtamlmddkcghhlaaGreatDoorB7
import Derived.Test.YtamlmddkcghhlaaGreatDoorB6
set_option linter.unusedSimpArgs false
set_option linter.unusedVariables false
namespace Go.Proofs.YtamlmddkcghhlaaGreatDoor
set_option maxRecDepth 100000
set_option maxHeartbeats 0
open Go

theorem catalogNames_holds : Rows.CatalogNamesSaid :=
  OpenClaim.holds_of_wide 3 Tryz.f3 rfl rfl rfl rfl rfl rfl rfl ⟨rfl, rfl, rfl, rfl, rfl⟩ rfl rfl rfl rfl rfl (by as_aux_lemma => kernel_rfl) Tryz.func3 names_facts
    (of_decide_eq_true (by as_aux_lemma => kernel_rfl)) (by as_aux_lemma => unfold Func.isWrapper; first | (rw [if_pos (by decide +kernel)]; kernel_rfl) | (rw [if_neg (by decide +kernel)]; exact ⟨rfl, rfl⟩))
    (fun os started H enc _ => names_lifted os started H enc)
end Go.Proofs.YtamlmddkcghhlaaGreatDoor
namespace Go.Proofs.YtamlmddkcghhlaaGreatDoor
set_option maxRecDepth 100000
set_option maxHeartbeats 0
open Go
theorem names_wf : Rows.catalogNamesRow.wfByText (OpenSpec.ofChange Rows.catalogNamesSpec) = true := by kernel_rfl
theorem names_main : Tryz.pinned.checked.prog.mainIs = some (true, "49d74a665fa8e61b493d08c6f046c8c1a66b9d42574f65f1c7f439cc9fd76f90".toList) := by kernel_rfl
theorem names_named : Tryz.prog.funcNamed "coffret/coffretlaw18.CatalogNames" = some 3 := by kernel_rfl
theorem names_plain : ([9, 24, 3].all fun u => !Tryz.prog.wantsStandIn u) = true := by kernel_rfl
theorem names_looks : true = Tryz.pinned.checked.prog.looks [] := by kernel_rfl
end Go.Proofs.YtamlmddkcghhlaaGreatDoor
namespace Go.Proofs.YtamlmddkcghhlaaGreatDoor
set_option maxRecDepth 100000
set_option maxHeartbeats 0
open Go
theorem none_goes : Tryz.prog.funcs.toList.all (fun g => !g.goes) = true := by kernel_rfl
theorem goes_at {P : Program} (h : P.funcs.toList.all (fun g => !g.goes) = true) (f : FuncId) : P.goes f = false := by
  have h1 : ∀ x ∈ P.funcs.toList, x.goes = false := fun x hx => by simpa using List.all_eq_true.1 h x hx
  have h2 : ∀ g : FuncId, (P.funcs[g]?).any Func.goes = false := fun g => by
    cases hg : P.funcs[g]? with
    | none => rfl
    | some x => exact h1 x (Array.mem_toList_iff.2 (Array.mem_of_getElem? hg))
  have h3 : P.funcs.any Func.goes = false := by
    rw [← Array.any_toList]
    exact List.any_eq_false.2 fun x hx => by rw [h1 x hx]; decide
  unfold Program.goes
  rw [h3, Bool.and_false, Bool.or_false]
  exact List.any_eq_false.2 fun g _ => by rw [h2 g]; decide
theorem names_goes : false = Rows.catalogNamesRow.goesBy Tryz.pinned.checked.prog := by
  unfold OpenClaim.goesBy Program.goesAt Program.goesFrom
  show false = (((Tryz.prog.funcNamed "coffret/coffretlaw18.CatalogNames").any Tryz.prog.goes) || false)
  cases Tryz.prog.funcNamed "coffret/coffretlaw18.CatalogNames" with
  | none => rfl
  | some f => rw [Option.any_some, goes_at none_goes]; rfl
end Go.Proofs.YtamlmddkcghhlaaGreatDoor
namespace Go.Proofs.YtamlmddkcghhlaaGreatDoor
set_option maxRecDepth 100000
set_option maxHeartbeats 0
open Go

theorem catalogNames_card_holds : Rows.CatalogNamesCardSaid :=
  Claim7.holds_tied_plain_at .later [] [.data, .data, .data, .data, .data, .pinned] true (true, "49d74a665fa8e61b493d08c6f046c8c1a66b9d42574f65f1c7f439cc9fd76f90") true catalogNames_holds (fun _ h => by cases h) names_wf (fun _ h => by cases h) catalogNames_row_tie rfl ⟨rfl, rfl⟩ names_main rfl
    (fun f fn hf hfn => by
      obtain rfl : f = 3 := Option.some.inj (names_named.symm.trans hf) |>.symm
      obtain rfl : fn = Tryz.f3 := (Option.some.inj (Tryz.func3.symm.trans hfn)).symm
      exact ⟨names_looks, fun j t ht => by
        rw [Tryz.params3] at ht
        have hm : t ∈ [9, 24, 3] := by simpa using Array.mem_of_getElem? ht
        exact (show Tryz.prog.wantsStandIn t = false by simpa using List.all_eq_true.1 names_plain t hm)⟩)
    names_goes
end Go.Proofs.YtamlmddkcghhlaaGreatDoor
