/-
  awake, by the kernel, whatever lies in the blocks that the call's arguments have.
-/
import Derived.Test.YtamlmddkcghhlaaGreatDoorB2
set_option linter.unusedSimpArgs false
set_option linter.unusedVariables false
namespace Go.Proofs.YtamlmddkcghhlaaGreatDoor
open Go Go.Ab
noncomputable section
/-- Does the call end with true? And what lies then in block 8? -/
def chk8 (t : T CR) : Option AO :=
  match t with
  | .ret (.ok (.bool true) h false) => bif Nat.ble 9 h.sz then getN h.blk 8 else none
  | _ => none
/-- The kind of element that a block bears is not known at the start. -/
def ofElem (e : Nat) (o : AO) : AO :=
  match o with
  | .row r => .row { r with elem := e }
  | o => o
def g9 (e : Nat → Nat) (y x : AO) : H := ⟨9, (((((((((PT.lf.set 0 AO.opaq).set 1 (ofElem (e 1) gl1)).set 2 (ofElem (e 2) gl2)).set 3 (ofElem (e 3) gl3)).set 4 (ofElem (e 4) gl4)).set 5 (ofElem (e 5) gl5)).set 6 (ofElem (e 6) gl6)).set 7 y).set 8 x)⟩
set_option maxRecDepth 100000
theorem awake9 (e : Nat → Nat) (y x : AO) : chk8 ((recK env1 100000).call 8 [] (g9 e y x) none) = some x := by kernel_rfl
end
end Go.Proofs.YtamlmddkcghhlaaGreatDoor
