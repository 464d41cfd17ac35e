/- Readings of arguments: whatever value of a type the form can read as data has cells that the print's kinds (Kd) tell. Conditions: the type's own shape, type by type. -/
import Derived.Test.YtaddlahbahedeaaUFnClashOkWWords
import Derived.ChangeSlices
import Derived.SizedLaws
set_option linter.unusedVariables false
namespace Go.Proofs.Ytaddlahbahedeaa.Opens
open Go.ChangeShapes Go.WideShapes Go.Proofs.YtaddlahbahedeaaW.PrintWords

/-- A cell that is stored into twice: the walk looks no deeper than one store into the same cell. -/
theorem cell_twice (w : World) (a : Addr) (u v : Value) (h : (w.cell? a).isSome = true) : ((w.setCell a u).setCell a v).cell? a = some v := World.cell?_setCell_same' _ _ _ (by rw [World.cell?_setCell_same' _ _ _ h]; rfl)
section
variable {H : Type} {enc : TypeId × Value → H} {P : Program} {W : World}

/-- Whatever reads as data of type t has cells that the kind d tells, of a value that meets p. -/
def Opens {α : Type} (enc : TypeId × Value → H) (P : Program) (W : World) (t : TypeId) (d : Kd α) (p : α → Prop) : Prop :=
  ∀ fuel cs x, DataW.trod enc P W 0 (fun _ => true) true fuel t cs = some x → ∃ a, d.K W a cs ∧ p a

/-- A variable in memory, told as a row of one element that is read. -/
theorem C_box {α : Type} {d : Kd α} {g t : Nat} {cs : Array Value} {x : α} (h : W.heap[g]? = some (.cells cs t (0, 0))) (hK : d.K W x cs.toList) : d.C W (some ⟨g, 0, none⟩) [x].length [x] := by
  refine ⟨rfl, by simp, fun _ => ⟨_, rfl, fun j p hj => ?_⟩⟩
  have hj0 : j = 0 := by
    have := (List.getElem?_eq_some_iff.1 hj).1
    simpa using this
  subst hj0
  have hp : p = x := by simpa using hj.symm
  subst hp
  refine ⟨cs.toList, d.K_len hK, hK, fun i u hu => ?_⟩
  rw [Nat.zero_mul, Nat.zero_add, Go.Proofs.YtaddlahbahedeaaW.PrintWords.add_plain]
  have := blk_cell h i
  rw [this]
  simpa using hu
end
end Go.Proofs.Ytaddlahbahedeaa.Opens
