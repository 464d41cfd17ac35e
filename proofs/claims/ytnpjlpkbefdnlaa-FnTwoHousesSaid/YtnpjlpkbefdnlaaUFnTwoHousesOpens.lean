/- Readings of arguments: whatever value of a type the form can read as data has cells that the print's kinds (Kd) tell. Conditions: the type's own shape, type by type. -/
import Derived.Test.YtnpjlpkbefdnlaaUFnTwoHousesWWords
import Derived.ChangeSlices
import Derived.SizedLaws
set_option linter.unusedVariables false
namespace Go.Proofs.Ytnpjlpkbefdnlaa.Opens
open Go.ChangeShapes Go.WideShapes Go.Proofs.YtnpjlpkbefdnlaaW.PrintWords

/-- A cell that is stored into twice: the walk looks no deeper than one store into the same cell. -/
theorem cell_twice (w : World) (a : Addr) (u v : Value) (h : (w.cell? a).isSome = true) : ((w.setCell a u).setCell a v).cell? a = some v := World.cell?_setCell_same' _ _ _ (by rw [World.cell?_setCell_same' _ _ _ h]; rfl)
section
variable {H : Type} {enc : TypeId × Value → H} {P : Program} {W : World}

/-- Whatever reads as data of type t has cells that the kind d tells, of a value that meets p. -/
def Opens {α : Type} (enc : TypeId × Value → H) (P : Program) (W : World) (t : TypeId) (d : Kd α) (p : α → Prop) : Prop :=
  ∀ fuel cs x, DataW.trod enc P W 0 (fun _ => true) true fuel t cs = some x → ∃ a, d.K W a cs ∧ p a

end
end Go.Proofs.Ytnpjlpkbefdnlaa.Opens
