/-
  No cell of these rows narrows 'for every input' (looked for: loops, veiled, ifaces, maps, wideKeys, modest, calm, conditions, laid).
  DERIVED. THE GIVEN ROWS OF THIS SEAT. 6 by the template 'for every input the law returns true; each argument reads behind the call as it read before'; 0 by the template 'total and deterministic' (their statements: YtmbphgdfadoknaaTotals.lean).
  GIVEN WITH THE SEED: the statements are not yours to turn. If you find one false, say at which input.
  Laid BY PROGRAM, IN A SANDBOX (cutbox-rows.mjs): the forced cells as the released guide's own fill.sh prints them over the translation 710d69bce653b1af… (all of the seat's roots in one cut). By AI agents, Wed Nov 11 2026. No macro, syntax, notation, axiom, sorry.
-/
import Derived.Test.YtmbphgdfadoknaaChecked
import GoSem.Claim
import GoSem.ClaimJoined
import GoSem.ClaimMapViews
import Derived.JoinedTies
import Derived.KernelRfl
namespace Go.Proofs.Ytmbphgdfadoknaa
/- THE CELL 'sum', in the pinned program and in every row, IS THE sha256 OF THE DUMP (.gsa) THAT YtmbphgdfadoknaaProg.lean LOADS. Nothing in Lean hashes anything: it is a label: what it is worth is what the hold of that sum in a sandbox is worth. -/
noncomputable def Try.pinned : Pinned := { name := "ytmbphgdfadoknaa", sum := "710d69bce653b1afd5f2f6d96fe8cae84cfab0430aeceb2720564608f624e84a", checked := Try.checked }
namespace Rows
def none {H : Type} : Left H := { results := [], args := [] }

/-- 'laws.FnCharterOk': WHATEVER THE INPUT: true; the input reads as it did. -/
def fnCharterOkSpec : ChangeSpec := { name := "fnCharterOk", fn := fun _ => fun
  | [d] => { results := [.lit (.bool true)], args := [d] }
  | _ => none }
def fnCharterOkRow : OpenClaim := { program := "ytmbphgdfadoknaa", sum := "710d69bce653b1afd5f2f6d96fe8cae84cfab0430aeceb2720564608f624e84a", func := "loop.example/charterrules/laws.FnCharterOk", spec := "fnCharterOk", apart := false }
def FnCharterOkSaid : Prop := fnCharterOkRow.holds Try.pinned (OpenSpec.ofChange fnCharterOkSpec)

/-- ITS FALSE NEIGHBOUR: 'it returns false'. Refute it at one input. -/
def fnCharterOkWrong : ChangeSpec := { name := "fnCharterOk", fn := fun _ => fun
  | [d] => { results := [.lit (.bool false)], args := [d] }
  | _ => none }
def FnCharterOkWrongFalsely : Prop := fnCharterOkRow.holds Try.pinned (OpenSpec.ofChange fnCharterOkWrong)

/-- 'laws.FnStateOk': WHATEVER THE INPUT: true; the input reads as it did. -/
def fnStateOkSpec : ChangeSpec := { name := "fnStateOk", fn := fun _ => fun
  | [d] => { results := [.lit (.bool true)], args := [d] }
  | _ => none }
def fnStateOkRow : OpenClaim := { program := "ytmbphgdfadoknaa", sum := "710d69bce653b1afd5f2f6d96fe8cae84cfab0430aeceb2720564608f624e84a", func := "loop.example/charterrules/laws.FnStateOk", spec := "fnStateOk", apart := false }
def FnStateOkSaid : Prop := fnStateOkRow.holds Try.pinned (OpenSpec.ofChange fnStateOkSpec)

/-- ITS FALSE NEIGHBOUR: 'it returns false'. Refute it at one input. -/
def fnStateOkWrong : ChangeSpec := { name := "fnStateOk", fn := fun _ => fun
  | [d] => { results := [.lit (.bool false)], args := [d] }
  | _ => none }
def FnStateOkWrongFalsely : Prop := fnStateOkRow.holds Try.pinned (OpenSpec.ofChange fnStateOkWrong)

/-- 'laws.FnStateNumber': WHATEVER THE INPUT: true; the input reads as it did. -/
def fnStateNumberSpec : ChangeSpec := { name := "fnStateNumber", fn := fun _ => fun
  | [d] => { results := [.lit (.bool true)], args := [d] }
  | _ => none }
def fnStateNumberRow : OpenClaim := { program := "ytmbphgdfadoknaa", sum := "710d69bce653b1afd5f2f6d96fe8cae84cfab0430aeceb2720564608f624e84a", func := "loop.example/charterrules/laws.FnStateNumber", spec := "fnStateNumber", apart := false }
def FnStateNumberSaid : Prop := fnStateNumberRow.holds Try.pinned (OpenSpec.ofChange fnStateNumberSpec)

/-- ITS FALSE NEIGHBOUR: 'it returns false'. Refute it at one input. -/
def fnStateNumberWrong : ChangeSpec := { name := "fnStateNumber", fn := fun _ => fun
  | [d] => { results := [.lit (.bool false)], args := [d] }
  | _ => none }
def FnStateNumberWrongFalsely : Prop := fnStateNumberRow.holds Try.pinned (OpenSpec.ofChange fnStateNumberWrong)

/-- 'laws.FnExactCharterOk': WHATEVER THE INPUT: true; the input reads as it did. -/
def fnExactCharterOkSpec : ChangeSpec := { name := "fnExactCharterOk", fn := fun _ => fun
  | [d] => { results := [.lit (.bool true)], args := [d] }
  | _ => none }
def fnExactCharterOkRow : OpenClaim := { program := "ytmbphgdfadoknaa", sum := "710d69bce653b1afd5f2f6d96fe8cae84cfab0430aeceb2720564608f624e84a", func := "loop.example/charterrules/laws.FnExactCharterOk", spec := "fnExactCharterOk", apart := false }
def FnExactCharterOkSaid : Prop := fnExactCharterOkRow.holds Try.pinned (OpenSpec.ofChange fnExactCharterOkSpec)

/-- ITS FALSE NEIGHBOUR: 'it returns false'. Refute it at one input. -/
def fnExactCharterOkWrong : ChangeSpec := { name := "fnExactCharterOk", fn := fun _ => fun
  | [d] => { results := [.lit (.bool false)], args := [d] }
  | _ => none }
def FnExactCharterOkWrongFalsely : Prop := fnExactCharterOkRow.holds Try.pinned (OpenSpec.ofChange fnExactCharterOkWrong)

/-- 'laws.FnExactStateOk': WHATEVER THE INPUT: true; the input reads as it did. -/
def fnExactStateOkSpec : ChangeSpec := { name := "fnExactStateOk", fn := fun _ => fun
  | [d1, d2] => { results := [.lit (.bool true)], args := [d1, d2] }
  | _ => none }
def fnExactStateOkRow : OpenClaim := { program := "ytmbphgdfadoknaa", sum := "710d69bce653b1afd5f2f6d96fe8cae84cfab0430aeceb2720564608f624e84a", func := "loop.example/charterrules/laws.FnExactStateOk", spec := "fnExactStateOk", apart := false }
def FnExactStateOkSaid : Prop := fnExactStateOkRow.holds Try.pinned (OpenSpec.ofChange fnExactStateOkSpec)

/-- ITS FALSE NEIGHBOUR: 'it returns false'. Refute it at one input. -/
def fnExactStateOkWrong : ChangeSpec := { name := "fnExactStateOk", fn := fun _ => fun
  | [d1, d2] => { results := [.lit (.bool false)], args := [d1, d2] }
  | _ => none }
def FnExactStateOkWrongFalsely : Prop := fnExactStateOkRow.holds Try.pinned (OpenSpec.ofChange fnExactStateOkWrong)

/-- 'laws.FnExactStateNumber': WHATEVER THE INPUT: true; the input reads as it did. -/
def fnExactStateNumberSpec : ChangeSpec := { name := "fnExactStateNumber", fn := fun _ => fun
  | [d1, d2] => { results := [.lit (.bool true)], args := [d1, d2] }
  | _ => none }
def fnExactStateNumberRow : OpenClaim := { program := "ytmbphgdfadoknaa", sum := "710d69bce653b1afd5f2f6d96fe8cae84cfab0430aeceb2720564608f624e84a", func := "loop.example/charterrules/laws.FnExactStateNumber", spec := "fnExactStateNumber", apart := false }
def FnExactStateNumberSaid : Prop := fnExactStateNumberRow.holds Try.pinned (OpenSpec.ofChange fnExactStateNumberSpec)

/-- ITS FALSE NEIGHBOUR: 'it returns false'. Refute it at one input. -/
def fnExactStateNumberWrong : ChangeSpec := { name := "fnExactStateNumber", fn := fun _ => fun
  | [d1, d2] => { results := [.lit (.bool false)], args := [d1, d2] }
  | _ => none }
def FnExactStateNumberWrongFalsely : Prop := fnExactStateNumberRow.holds Try.pinned (OpenSpec.ofChange fnExactStateNumberWrong)

/- THE SECOND FORM. 'bulk': how many values and letters a reading holds, each counted each time it is reached (what is shared counts as often as it is met; a slice's spare places count too). A statement '..UptoSaid' is the law's where the arguments, and the package variables that the reading takes, are together of bulk at most 1048576: NARROWER than '..Said'. Prove '..Said' where nothing that the law and all that it calls make is longer than what came in: it says more and counts as full. Else prove '..UptoSaid'. A law counts once. -/
mutual
def uptoBulk {H : Type} : DataW H → Nat
  | .lit (.string bytes) => bytes.length + 1
  | .lit _ => 1
  | .nil => 1
  | .ptr d => uptoBulk d + 1
  | .slice elems spare => uptoBulkAll elems + uptoBulkAll spare + 1
  | .agg parts => uptoBulkAll parts + 1
  | .iface _ d => uptoBulk d + 1
  | .map entries => uptoBulkEntries entries + 1
  | .held _ => 1
def uptoBulkAll {H : Type} : List (DataW H) → Nat
  | [] => 0
  | d :: r => uptoBulk d + uptoBulkAll r
def uptoBulkEntries {H : Type} : List (Lit × DataW H) → Nat
  | [] => 0
  | x :: r => uptoBulkEntry x + uptoBulkEntries r
def uptoBulkEntry {H : Type} : Lit × DataW H → Nat
  | (.string bytes, d) => bytes.length + uptoBulk d + 1
  | (_, d) => uptoBulk d + 1
 end
def uptoSmall : (H : Type) → List (DataW H) → Bool := fun _ ds => decide (uptoBulkAll ds ≤ 1048576)
def OpenSpec.upto (s : _root_.Go.ChangeSpec) : _root_.Go.OpenSpec := { _root_.Go.OpenSpec.ofChange s with cond := some uptoSmall }

/-- 'laws.FnCharterOk', WHERE WHAT IT READS IS OF BULK AT MOST 1048576: true; the input reads as it did. -/
def fnCharterOkUptoRow : OpenClaim := { program := "ytmbphgdfadoknaa", sum := "710d69bce653b1afd5f2f6d96fe8cae84cfab0430aeceb2720564608f624e84a", func := "loop.example/charterrules/laws.FnCharterOk", spec := "fnCharterOk", apart := false, narrowed := true }
def FnCharterOkUptoSaid : Prop := fnCharterOkUptoRow.holds Try.pinned (OpenSpec.upto fnCharterOkSpec)

/-- 'laws.FnStateOk', WHERE WHAT IT READS IS OF BULK AT MOST 1048576: true; the input reads as it did. -/
def fnStateOkUptoRow : OpenClaim := { program := "ytmbphgdfadoknaa", sum := "710d69bce653b1afd5f2f6d96fe8cae84cfab0430aeceb2720564608f624e84a", func := "loop.example/charterrules/laws.FnStateOk", spec := "fnStateOk", apart := false, narrowed := true }
def FnStateOkUptoSaid : Prop := fnStateOkUptoRow.holds Try.pinned (OpenSpec.upto fnStateOkSpec)

/-- 'laws.FnStateNumber', WHERE WHAT IT READS IS OF BULK AT MOST 1048576: true; the input reads as it did. -/
def fnStateNumberUptoRow : OpenClaim := { program := "ytmbphgdfadoknaa", sum := "710d69bce653b1afd5f2f6d96fe8cae84cfab0430aeceb2720564608f624e84a", func := "loop.example/charterrules/laws.FnStateNumber", spec := "fnStateNumber", apart := false, narrowed := true }
def FnStateNumberUptoSaid : Prop := fnStateNumberUptoRow.holds Try.pinned (OpenSpec.upto fnStateNumberSpec)

/-- 'laws.FnExactCharterOk', WHERE WHAT IT READS IS OF BULK AT MOST 1048576: true; the input reads as it did. -/
def fnExactCharterOkUptoRow : OpenClaim := { program := "ytmbphgdfadoknaa", sum := "710d69bce653b1afd5f2f6d96fe8cae84cfab0430aeceb2720564608f624e84a", func := "loop.example/charterrules/laws.FnExactCharterOk", spec := "fnExactCharterOk", apart := false, narrowed := true }
def FnExactCharterOkUptoSaid : Prop := fnExactCharterOkUptoRow.holds Try.pinned (OpenSpec.upto fnExactCharterOkSpec)

/-- 'laws.FnExactStateOk', WHERE WHAT IT READS IS OF BULK AT MOST 1048576: true; the input reads as it did. -/
def fnExactStateOkUptoRow : OpenClaim := { program := "ytmbphgdfadoknaa", sum := "710d69bce653b1afd5f2f6d96fe8cae84cfab0430aeceb2720564608f624e84a", func := "loop.example/charterrules/laws.FnExactStateOk", spec := "fnExactStateOk", apart := false, narrowed := true }
def FnExactStateOkUptoSaid : Prop := fnExactStateOkUptoRow.holds Try.pinned (OpenSpec.upto fnExactStateOkSpec)

/-- 'laws.FnExactStateNumber', WHERE WHAT IT READS IS OF BULK AT MOST 1048576: true; the input reads as it did. -/
def fnExactStateNumberUptoRow : OpenClaim := { program := "ytmbphgdfadoknaa", sum := "710d69bce653b1afd5f2f6d96fe8cae84cfab0430aeceb2720564608f624e84a", func := "loop.example/charterrules/laws.FnExactStateNumber", spec := "fnExactStateNumber", apart := false, narrowed := true }
def FnExactStateNumberUptoSaid : Prop := fnExactStateNumberUptoRow.holds Try.pinned (OpenSpec.upto fnExactStateNumberSpec)

end Rows
end Go.Proofs.Ytmbphgdfadoknaa
